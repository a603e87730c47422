import PyProof.Rows.All
import Wide.All
import OpenK.AllK
import Wide.FinOn
import HandS.ForMost
import HandS.Deep
import HandS.SortKw
import HandS.IsInst
import HandS.Flow
import HandS.Wide
import KE.DataEq
import KE.DataCmp
import KE.DataAny
import KE.DataIsa
import KE.DataMinMax
import KE.SortData
import KE.SortKeyHeap
import KE.KDictKeyed
import HandS.Conv
import HandS.ExcValue
import PySem.Challenge.RW_tickoff_k04_within
set_option Elab.async false
set_option linter.all false
set_option maxRecDepth 100000
set_option autoImplicit false
set_option maxHeartbeats 4000000
/-! Dat: defs over plain data. G is the part of the heap that never changes again; H the heap. -/
open PySem PySem.Spec PyProof.Rows L2
namespace Dat

/-! ### heaps -/
structure Stp (G H G' H' : Hp) : Prop where
  hh : Same H H'
  gg : Same G G'
  gh : Same G' H'
  sep : ∀ a, H a ≠ none → G a = none → G' a = none
theorem Stp.refl {G H : Hp} (h : Same G H) : Stp G H G H := ⟨Same.refl _, Same.refl _, h, fun _ _ e => e⟩
theorem Stp.trans {G H G1 H1 G2 H2 : Hp} (a : Stp G H G1 H1) (b : Stp G1 H1 G2 H2) : Stp G H G2 H2 :=
  ⟨a.hh.trans b.hh, a.gg.trans b.gg, b.gh, fun c n e => b.sep c (fun z => n (a.hh.free z)) (a.sep c n e)⟩
theorem same_new {H : Hp} {p : Addr} {o : HO} (n : H p = none) : Same H (upd H p o) := fun b u e => by
  rw [upd_ne (ne_of_none e n)]; exact e
theorem Stp.new {G H : Hp} {p : Addr} {o : HO} (h : Same G H) (n : H p = none) : Stp G H G (upd H p o) :=
  ⟨same_new n, Same.refl _, h.trans (same_new n), fun _ _ e => e⟩
theorem Stp.frz {G H G' H' : Hp} {p : Addr} {o : HO} (s : Stp G H G' H') (n : H p = none) (g : G' p = none) (e : H' p = some o) : Stp G H (upd G' p o) H' := by
  refine ⟨s.hh, fun a u q => ?_, fun a u q => ?_, fun a hn q => ?_⟩
  · rw [upd_ne (ne_of_none (s.gg a u q) g)]; exact s.gg a u q
  · by_cases h : a = p
    · subst h; rw [upd_same] at q; cases q; exact e
    · rw [upd_ne h] at q; exact s.gh a u q
  · have h : a ≠ p := fun z => hn (by rw [z]; exact n)
    rw [upd_ne h]; exact s.sep a hn q
theorem Stp.newF {G H : Hp} {p : Addr} {o : HO} (h : Same G H) (n : H p = none) : Stp G H (upd G p o) (upd H p o) :=
  (Stp.new h n).frz n (h.free n) upd_same
theorem seqT_same {K : PySem.W.Frag} {H H' : Hp} {a : Addr} {xs : List V} (e : Same H H') (h : SqT K H a xs) : SqT K H' a xs := by
  rcases h with (h | ⟨o, h⟩) | h
  · exact .inl (.inl (e _ _ h))
  · exact .inl (.inr ⟨o, e _ _ h⟩)
  · exact .inr h
mutual
theorem dp_mono {K : PySem.W.Frag} {G H : Hp} (s : Same G H) : ∀ (d : PyData) (v : V), Dp K G v d → Dp K H v d
  | .none, _, h => by cases h; exact .non
  | .bool _, _, h => by cases h; exact .bl _
  | .int _, _, h => by cases h; exact .int _
  | .str _, _, h => by cases h; exact .str _
  | .list ds, _, h => by cases h with | lst a b => exact .lst (s.seq a) (dpAll_mono s ds _ b)
  | .tuple ds, _, h => by cases h with | tup a b => exact .tup (seqT_same s a) (dpAll_mono s ds _ b)
  | .dict _, _, h => by cases h
theorem dpAll_mono {K : PySem.W.Frag} {G H : Hp} (s : Same G H) : ∀ (ds : List PyData) (vs : List V), DpAll K G vs ds → DpAll K H vs ds
  | [], _, h => by cases h; exact .nil
  | d :: ds, _, h => by cases h with | cons a b => exact .cons (dp_mono s d _ a) (dpAll_mono s ds _ b)
end
mutual
theorem dp_plain {K : PySem.W.Frag} {G : Hp} : ∀ (d : PyData) (v : V), Dp K G v d → d.plain = true
  | .none, _, _ => rfl
  | .bool _, _, _ => rfl
  | .int _, _, _ => rfl
  | .str _, _, _ => rfl
  | .list ds, _, h => by cases h with | lst a b => simp only [PyData.plain]; exact dpAll_plain ds _ b
  | .tuple ds, _, h => by cases h with | tup a b => simp only [PyData.plain]; exact dpAll_plain ds _ b
  | .dict _, _, h => by cases h
theorem dpAll_plain {K : PySem.W.Frag} {G : Hp} : ∀ (ds : List PyData) (vs : List V), DpAll K G vs ds → PyData.plainAll ds = true
  | [], _, _ => rfl
  | d :: ds, _, h => by cases h with | cons a b => simp only [PyData.plainAll, dp_plain d _ a, dpAll_plain ds _ b, Bool.and_self]
end
end Dat
namespace L2
theorem DpAll.length {K : PySem.W.Frag} {G : Hp} : ∀ {vs : List V} {ds : List PyData}, DpAll K G vs ds → vs.length = ds.length
  | _, _, .nil => rfl
  | _, _, .cons _ t => by simp only [List.length_cons, DpAll.length t]
theorem DpAll.get {K : PySem.W.Frag} {G : Hp} : ∀ {vs : List V} {ds : List PyData} {i : Nat} {d : PyData}, DpAll K G vs ds → ds[i]? = some d → ∃ v, vs[i]? = some v ∧ Dp K G v d
  | _, _, _, _, .nil, e => by simp at e
  | _, _, 0, _, .cons r _, e => by simp at e; subst e; exact ⟨_, rfl, r⟩
  | _, _, i + 1, _, .cons _ t, e => by
    obtain ⟨v, h1, h2⟩ := DpAll.get (i := i) t (by simpa using e)
    exact ⟨v, by simpa using h1, h2⟩
theorem DpAll.getV {K : PySem.W.Frag} {G : Hp} {vs : List V} {ds : List PyData} {i : Nat} {v : V} (h : DpAll K G vs ds) (e : vs[i]? = some v) : ∃ d, ds[i]? = some d ∧ Dp K G v d := by
  have hl : i < ds.length := by rw [← h.length]; exact (List.getElem?_eq_some_iff.mp e).1
  obtain ⟨v', h1, h2⟩ := h.get (List.getElem?_eq_getElem hl)
  rw [e] at h1; cases h1
  exact ⟨_, List.getElem?_eq_getElem hl, h2⟩
theorem DpAll.append {K : PySem.W.Frag} {G : Hp} : ∀ {vs ws : List V} {ds es : List PyData}, DpAll K G vs ds → DpAll K G ws es → DpAll K G (vs ++ ws) (ds ++ es)
  | _, _, _, _, .nil, s => s
  | _, _, _, _, .cons r t, s => .cons r (DpAll.append t s)
theorem DpAll.take {K : PySem.W.Frag} {G : Hp} : ∀ {vs : List V} {ds : List PyData} (n : Nat), DpAll K G vs ds → DpAll K G (vs.take n) (ds.take n)
  | _, _, 0, _ => .nil
  | _, _, _ + 1, .nil => .nil
  | _, _, n + 1, .cons r t => .cons r (DpAll.take n t)
theorem DpAll.drop {K : PySem.W.Frag} {G : Hp} : ∀ {vs : List V} {ds : List PyData} (n : Nat), DpAll K G vs ds → DpAll K G (vs.drop n) (ds.drop n)
  | _, _, 0, r => r
  | _, _, _ + 1, .nil => .nil
  | _, _, n + 1, .cons _ t => DpAll.drop n t
theorem DpAll.eraseIdx {K : PySem.W.Frag} {G : Hp} : ∀ {vs : List V} {ds : List PyData} (i : Nat), DpAll K G vs ds → DpAll K G (vs.eraseIdx i) (ds.eraseIdx i)
  | _, _, _, .nil => .nil
  | _, _, 0, .cons _ t => t
  | _, _, i + 1, .cons r t => .cons r (DpAll.eraseIdx i t)
theorem DpAll.set {K : PySem.W.Frag} {G : Hp} {v : V} {d : PyData} (r : Dp K G v d) : ∀ {vs : List V} {ds : List PyData} (i : Nat), DpAll K G vs ds → DpAll K G (vs.set i v) (ds.set i d)
  | _, _, _, .nil => .nil
  | _, _, 0, .cons _ t => .cons r t
  | _, _, i + 1, .cons q t => .cons q (DpAll.set r i t)
theorem DpAll.rev {K : PySem.W.Frag} {G : Hp} : ∀ {vs : List V} {ds : List PyData}, DpAll K G vs ds → DpAll K G vs.reverse ds.reverse
  | _, _, .nil => .nil
  | _, _, .cons r t => by rw [List.reverse_cons, List.reverse_cons]; exact (DpAll.rev t).append (.cons r .nil)

end L2
namespace Dat
/-! ### what is a def's own -/
/-- kinds: a list; a list of lists of its own; a table (a dict keyed by tuples); an instance of the class at C; a dict keyed by texts, some of whose values are lists of its own -/
inductive Kd where
  | lst | lol | tab (w : World) | obj (C : Addr) | sd (ks : List Str)
def Kd.isL : Kd → Bool
  | .lst => true
  | .lol => true
  | _ => false
/-- lists at the addresses qs -/
inductive Lols (K : PySem.W.Frag) (G H : Hp) : List Addr → List PyData → Prop
  | nil : Lols K G H [] []
  | cons {q : Addr} {qs : List Addr} {xs : List V} {es : List PyData} {ds : List PyData} : H q = some (.lst xs) → DpAll K G xs es → Lols K G H qs ds → Lols K G H (q :: qs) (.list es :: ds)
/-- a thing of its own: its value, the addresses that are its own, the data -/
inductive Own (K : PySem.W.Frag) (G H : Hp) : Kd → V → List Addr → PyData → Prop
  | lst {p : Addr} {xs : List V} {ds : List PyData} : H p = some (.lst xs) → DpAll K G xs ds → Own K G H .lst (.ref p) [p] (.list ds)
  | lol {p : Addr} {qs : List Addr} {ds : List PyData} : H p = some (.lst (qs.map V.ref)) → Lols K G H qs ds → (p :: qs).Nodup → Own K G H .lol (.ref p) (p :: qs) (.list ds)
theorem Lols.frame {K : PySem.W.Frag} {G G' H H' : Hp} (gg : Same G G') : ∀ {qs : List Addr} {ds : List PyData}, (∀ a, a ∈ qs → H' a = H a) → Lols K G H qs ds → Lols K G' H' qs ds
  | _, _, _, .nil => .nil
  | _, _, f, .cons h d t => .cons (by rw [f _ (by simp)]; exact h) (dpAll_mono gg _ _ d) (Lols.frame gg (fun a ha => f a (by simp [ha])) t)
theorem Lols.here {K : PySem.W.Frag} {G H : Hp} : ∀ {qs : List Addr} {ds : List PyData}, Lols K G H qs ds → ∀ a, a ∈ qs → H a ≠ none
  | _, _, .nil, _, ha => nomatch ha
  | _, _, .cons h d t, a, ha => by
    rcases List.mem_cons.mp ha with rfl | ha
    · rw [h]; exact fun z => nomatch z
    · exact Lols.here t a ha
theorem Lols.dp {K : PySem.W.Frag} {G H : Hp} (s : Same G H) : ∀ {qs : List Addr} {ds : List PyData}, Lols K G H qs ds → DpAll K H (qs.map V.ref) ds
  | _, _, .nil => .nil
  | _, _, .cons h d t => .cons (.lst (SqL.of h) (dpAll_mono s _ _ d)) (Lols.dp s t)
theorem Own.frame {K : PySem.W.Frag} {G G' H H' : Hp} {kd : Kd} {v : V} {fp : List Addr} {d : PyData} (o : Own K G H kd v fp d) (gg : Same G G') (f : ∀ a, a ∈ fp → H' a = H a) : Own K G' H' kd v fp d := by
  cases o with
  | lst h da => exact .lst (by rw [f _ (by simp)]; exact h) (dpAll_mono gg _ _ da)
  | lol h l n => exact .lol (by rw [f _ (by simp)]; exact h) (l.frame gg fun a ha => f a (by simp [ha])) n
theorem Own.here {K : PySem.W.Frag} {G H : Hp} {kd : Kd} {v : V} {fp : List Addr} {d : PyData} (o : Own K G H kd v fp d) : ∀ a, a ∈ fp → H a ≠ none := by
  intro a ha
  cases o with
  | lst h da =>
    have e : a = _ := List.mem_singleton.mp ha
    subst e; rw [h]; exact fun z => nomatch z
  | lol h l n =>
    rcases List.mem_cons.mp ha with rfl | ha
    · rw [h]; exact fun z => nomatch z
    · exact l.here a ha
theorem Own.stp {K : PySem.W.Frag} {G H G' H' : Hp} {kd : Kd} {v : V} {fp : List Addr} {d : PyData} (o : Own K G H kd v fp d) (s : Stp G H G' H') : Own K G' H' kd v fp d :=
  o.frame s.gg fun a ha => by
    cases q : H a with
    | none => exact absurd q (o.here a ha)
    | some u => exact s.hh a u q
theorem Own.dp {K : PySem.W.Frag} {G H : Hp} {kd : Kd} {v : V} {fp : List Addr} {d : PyData} (o : Own K G H kd v fp d) (s : Same G H) (hk : kd.isL = true) : Dp K H v d := by
  cases o with
  | lst h da => exact .lst (SqL.of h) (dpAll_mono s _ _ da)
  | lol h l n => exact .lst (SqL.of h) (l.dp s)
/-- the heap with the cells of fp as they stand in H -/
def addF (G H : Hp) (fp : List Addr) : Hp := fun a => if a ∈ fp then H a else G a
theorem addF_in {G H : Hp} {fp : List Addr} {a : Addr} (h : a ∈ fp) : addF G H fp a = H a := by unfold addF; rw [if_pos h]
theorem addF_out {G H : Hp} {fp : List Addr} {a : Addr} (h : a ∉ fp) : addF G H fp a = G a := by unfold addF; rw [if_neg h]
theorem addF_gg {G H : Hp} {fp : List Addr} (n : ∀ a, a ∈ fp → G a = none) : Same G (addF G H fp) := fun a o e => by
  rw [addF_out (fun h => by rw [n a h] at e; cases e)]; exact e
theorem addF_gh {G H : Hp} {fp : List Addr} (s : Same G H) : Same (addF G H fp) H := fun a o e => by
  by_cases h : a ∈ fp
  · rw [addF_in h] at e; exact e
  · rw [addF_out h] at e; exact s a o e
theorem Own.freeze {K : PySem.W.Frag} {G H : Hp} {kd : Kd} {v : V} {fp : List Addr} {d : PyData} (o : Own K G H kd v fp d) (hk : kd.isL = true) (n : ∀ a, a ∈ fp → G a = none) : Dp K (addF G H fp) v d := by
  have gg := addF_gg (H := H) n
  cases o with
  | lst h da => exact .lst (SqL.of ((addF_in (by simp)).trans h)) (dpAll_mono gg _ _ da)
  | lol h l nd =>
    rename_i p qs ds
    refine .lst (SqL.of ((addF_in (by simp)).trans h)) ?_
    have go : ∀ {rs : List Addr} {es : List PyData}, (∀ a, a ∈ rs → a ∈ p :: qs) → Lols K G H rs es → DpAll K (addF G H (p :: qs)) (rs.map V.ref) es := by
      intro rs es hs l'
      induction l' with
      | nil => exact .nil
      | cons h' d' _ ih => exact .cons (.lst (SqL.of ((addF_in (hs _ (by simp))).trans h')) (dpAll_mono gg _ _ d')) (ih fun a ha => hs a (by simp [ha]))
    exact go (fun a ha => by simp [ha]) l

/-! ### what is read: frozen data, or a list that is the def's own -/
def Bd (K : PySem.W.Frag) (G H : Hp) (v : V) (d : PyData) : Prop :=
  Dp K G v d ∨ ∃ p xs ds, v = .ref p ∧ d = .list ds ∧ H p = some (.lst xs) ∧ G p = none ∧ DpAll K G xs ds
theorem Bd.stp {K : PySem.W.Frag} {G H G' H' : Hp} {v : V} {d : PyData} (b : Bd K G H v d) (s : Stp G H G' H') : Bd K G' H' v d := by
  rcases b with b | ⟨p, xs, ds, e1, e2, e3, e4, e5⟩
  · exact .inl (dp_mono s.gg d v b)
  · exact .inr ⟨p, xs, ds, e1, e2, s.hh _ _ e3, s.sep p (by rw [e3]; exact fun z => nomatch z) e4, dpAll_mono s.gg ds xs e5⟩
theorem Bd.dp {K : PySem.W.Frag} {G H : Hp} {v : V} {d : PyData} (b : Bd K G H v d) (s : Same G H) : Dp K H v d := by
  rcases b with b | ⟨p, xs, ds, rfl, rfl, e3, _, e5⟩
  · exact dp_mono s d v b
  · exact .lst (SqL.of e3) (dpAll_mono s ds xs e5)
theorem Bd.plain {K : PySem.W.Frag} {G H : Hp} {v : V} {d : PyData} (b : Bd K G H v d) (s : Same G H) : d.plain = true := dp_plain d v (b.dp s)
theorem Bd.list {K : PySem.W.Frag} {G H : Hp} {v : V} {ds : List PyData} (b : Bd K G H v (.list ds)) (s : Same G H) : ∃ p xs, v = .ref p ∧ SqL K H p xs ∧ DpAll K G xs ds := by
  rcases b with b | ⟨p, xs, ds', rfl, e2, e3, _, e5⟩
  · cases b with | lst a h => exact ⟨_, _, rfl, s.seq a, h⟩
  · cases e2; exact ⟨p, xs, rfl, SqL.of e3, e5⟩
theorem Bd.tup {K : PySem.W.Frag} {G H : Hp} {v : V} {ds : List PyData} (b : Bd K G H v (.tuple ds)) (s : Same G H) : ∃ p xs, v = .ref p ∧ SqT K H p xs ∧ DpAll K G xs ds := by
  rcases b with b | ⟨p, xs, ds', rfl, e2, e3, _, e5⟩
  · cases b with | tup a h => exact ⟨_, _, rfl, seqT_same s a, h⟩
  · cases e2
theorem Bd.int {K : PySem.W.Frag} {G H : Hp} {v : V} {i : Int} (b : Bd K G H v (.int i)) : v = .int i := by
  rcases b with b | ⟨p, xs, ds', rfl, e2, e3, _, e5⟩
  · cases b; rfl
  · cases e2
theorem Bd.bool {K : PySem.W.Frag} {G H : Hp} {v : V} {i : Bool} (b : Bd K G H v (.bool i)) : v = .bl i := by
  rcases b with b | ⟨p, xs, ds', rfl, e2, e3, _, e5⟩
  · cases b; rfl
  · cases e2
theorem Bd.str {K : PySem.W.Frag} {G H : Hp} {v : V} {i : Str} (b : Bd K G H v (.str i)) : v = .str i := by
  rcases b with b | ⟨p, xs, ds', rfl, e2, e3, _, e5⟩
  · cases b; rfl
  · cases e2
inductive BdAll (K : PySem.W.Frag) (G H : Hp) : List V → List PyData → Prop
  | nil : BdAll K G H [] []
  | cons {v : V} {vs : List V} {d : PyData} {ds : List PyData} : Bd K G H v d → BdAll K G H vs ds → BdAll K G H (v :: vs) (d :: ds)
theorem BdAll.stp {K : PySem.W.Frag} {G H G' H' : Hp} {vs : List V} {ds : List PyData} (b : BdAll K G H vs ds) (s : Stp G H G' H') : BdAll K G' H' vs ds := by
  induction b with
  | nil => exact .nil
  | cons a _ ih => exact .cons (a.stp s) ih
theorem dpAll_bd {K : PySem.W.Frag} {G H : Hp} : ∀ {vs : List V} {ds : List PyData}, DpAll K G vs ds → BdAll K G H vs ds
  | _, _, .nil => .nil
  | _, _, .cons r t => .cons (.inl r) (dpAll_bd t)

/-! ### a def's slots -/
/-- the data in a def's slots (none: nothing there, or nothing known) -/
abbrev Dv := List (Option PyData)
def dvGet (ρ : Dv) (i : Nat) : Option PyData := (ρ[i]?).join
/-- the slots that hold the def's own things -/
abbrev Os := List (Nat × Kd)
def nin (i : Nat) (O : Os) : Bool := O.all fun p => p.1 != i
/-- if i is an own slot, a list's -/
def lsl (i : Nat) (O : Os) : Bool := O.all fun p => p.1 != i || p.2.isL
def dropO (i : Nat) (O : Os) : Os := O.filter fun p => p.1 != i
theorem nin_of {i : Nat} {O : Os} (h : nin i O = true) {kd : Kd} : (i, kd) ∉ O := fun m => by
  have := List.all_eq_true.mp h _ m
  simp at this
theorem lsl_of {i : Nat} {O : Os} (h : lsl i O = true) {kd : Kd} (m : (i, kd) ∈ O) : kd.isL = true := by
  have := List.all_eq_true.mp h _ m
  simpa using this
theorem nin_lsl {i : Nat} {O : Os} (h : nin i O = true) : lsl i O = true := List.all_eq_true.mpr fun p hp => by
  have := List.all_eq_true.mp h p hp
  simp only [Bool.or_eq_true]; exact .inl this
theorem mem_drop {i j : Nat} {kd : Kd} {O : Os} : (j, kd) ∈ dropO i O ↔ (j, kd) ∈ O ∧ j ≠ i := by simp [dropO, List.mem_filter]
theorem nin_drop {i j : Nat} {O : Os} : nin j (dropO i O) = true ↔ nin j O = true ∨ j = i := by
  unfold nin dropO
  simp only [List.all_eq_true, List.mem_filter, and_imp]
  constructor
  · intro h
    by_cases e : j = i
    · exact .inr e
    · refine .inl fun p hp => ?_
      by_cases q : p.1 = i
      · rw [q]; simp; exact fun z => e z.symm
      · exact h p hp (by simpa using q)
  · rintro (h | rfl) p hp q
    · exact h p hp
    · exact q
/-- what is fixed through a def: the heap at its entry but for what is handed in to be changed (H0), its frozen part (G0), the slots of what is handed in to be changed -/
structure Gh where
  H0 : Hp
  G0 : Hp
  op : List (Nat × Kd × V) := []
structure Rep (K : PySem.W.Frag) (Γ : Gh) (G H : Hp) (O : Os) (σ : L2.St) (ρ : Dv) : Prop where
  base : Stp Γ.G0 Γ.H0 G H
  len : σ.length = ρ.length
  fz : ∀ (i : Nat) (d : PyData), nin i O = true → ρ[i]? = some (some d) → ∃ v, σ[i]? = some (some v) ∧ Dp K G v d
  ow : ∃ fp : Nat → List Addr, (∀ (i : Nat) (kd : Kd) (d : PyData), (i, kd) ∈ O → ρ[i]? = some (some d) → ∃ v, σ[i]? = some (some v) ∧ Own K G H kd v (fp i) d ∧ ∀ a, a ∈ fp i → Γ.H0 a = none ∧ G a = none) ∧
    ∀ (i j : Nat) (a : Addr), i ≠ j → a ∈ fp i → a ∉ fp j
  par : ∀ (i : Nat) (kd : Kd) (v : V), (i, kd, v) ∈ Γ.op → (i, kd) ∈ O ∧ kd.isL = false ∧ σ[i]? = some (some v)
  uq : ∀ (i : Nat) (k k' : Kd), (i, k) ∈ O → (i, k') ∈ O → k = k'
section
variable {K : PySem.W.Frag} {Γ : Gh} {G H G' H' : Hp} {O : Os} {σ : L2.St} {ρ : Dv}
theorem Rep.gh (R : Rep K Γ G H O σ ρ) : Same G H := R.base.gh
theorem Rep.stp (R : Rep K Γ G H O σ ρ) (s : Stp G H G' H') : Rep K Γ G' H' O σ ρ := by
  refine ⟨R.base.trans s, R.len, fun i d hi e => ?_, ?_, R.par, R.uq⟩
  · obtain ⟨v, h1, h2⟩ := R.fz i d hi e
    exact ⟨v, h1, dp_mono s.gg d v h2⟩
  · obtain ⟨fp, h1, h2⟩ := R.ow
    refine ⟨fp, fun i kd d hi e => ?_, h2⟩
    obtain ⟨v, e1, o, n⟩ := h1 i kd d hi e
    exact ⟨v, e1, o.stp s, fun a ha => ⟨(n a ha).1, s.sep a (o.here a ha) (n a ha).2⟩⟩
theorem dvGet_some {i : Nat} {d : PyData} (h : dvGet ρ i = some d) : ρ[i]? = some (some d) := by
  unfold dvGet at h
  cases q : ρ[i]? with
  | none => rw [q] at h; cases h
  | some x => rw [q] at h; cases x with
    | none => cases h
    | some y => cases h; rfl
theorem Rep.dp (R : Rep K Γ G H O σ ρ) {i : Nat} {d : PyData} (hi : nin i O = true) (h : dvGet ρ i = some d) : ∃ v, σ[i]? = some (some v) ∧ Dp K G v d := R.fz i d hi (dvGet_some h)
/-- a slot is frozen, or a list of the def's own -/
def flat (i : Nat) (O : Os) : Bool := O.all fun p => p.1 != i || match p.2 with | .lst => true | _ => false
theorem own_or {i : Nat} {O : Os} : nin i O = true ∨ ∃ kd, (i, kd) ∈ O := by
  by_cases h : nin i O = true
  · exact .inl h
  · refine .inr ?_
    unfold nin at h
    rw [List.all_eq_true] at h
    have h' : ∃ p, p ∈ O ∧ ¬ (p.1 != i) = true := Classical.byContradiction fun q => h fun p hp => Classical.byContradiction fun z => q ⟨p, hp, z⟩
    obtain ⟨⟨j, kd⟩, hp, hj⟩ := h'
    have e : j = i := by simpa using hj
    subst e
    exact ⟨kd, hp⟩
theorem Rep.bd (R : Rep K Γ G H O σ ρ) {i : Nat} {d : PyData} (hf : flat i O = true) (h : dvGet ρ i = some d) : ∃ v, σ[i]? = some (some v) ∧ Bd K G H v d := by
  have e := dvGet_some h
  rcases own_or (i := i) (O := O) with hi | ⟨kd, hi⟩
  · obtain ⟨v, h1, h2⟩ := R.fz i d hi e
    exact ⟨v, h1, .inl h2⟩
  · obtain ⟨fp, h1, h2⟩ := R.ow
    obtain ⟨v, e1, o, n⟩ := h1 i kd d hi e
    have hk := List.all_eq_true.mp hf _ hi
    refine ⟨v, e1, .inr ?_⟩
    generalize fp i = f at o n
    cases o with
    | lst hp da => exact ⟨_, _, _, rfl, rfl, hp, (n _ (by simp)).2, da⟩
    | lol _ _ _ => simp at hk
/-- .. or a list of own lists -/
theorem Rep.bx (R : Rep K Γ G H O σ ρ) {i : Nat} {d : PyData} (hf : lsl i O = true) (h : dvGet ρ i = some d) : ∃ v, σ[i]? = some (some v) ∧ Dp K H v d := by
  have e := dvGet_some h
  rcases own_or (i := i) (O := O) with hi | ⟨kd, hi⟩
  · obtain ⟨v, h1, h2⟩ := R.fz i d hi e
    exact ⟨v, h1, dp_mono R.gh d v h2⟩
  · obtain ⟨fp, h1, h2⟩ := R.ow
    obtain ⟨v, e1, o, n⟩ := h1 i kd d hi e
    exact ⟨v, e1, o.dp R.gh (lsl_of hf hi)⟩
/-- a slot's list is frozen -/
theorem Rep.freeze (R : Rep K Γ G H O σ ρ) (i : Nat) (hl : lsl i O = true) : ∃ G', Same G G' ∧ Rep K Γ G' H (dropO i O) σ ρ := by
  obtain ⟨fp, h1, h2⟩ := R.ow
  have par : ∀ (j : Nat) (kd : Kd) (v : V), (j, kd, v) ∈ Γ.op → (j, kd) ∈ dropO i O ∧ kd.isL = false ∧ σ[j]? = some (some v) := fun j kd v m => by
    obtain ⟨p1, p2, p3⟩ := R.par j kd v m
    refine ⟨mem_drop.mpr ⟨p1, fun z => ?_⟩, p2, p3⟩
    subst z
    rw [lsl_of hl p1] at p2; cases p2
  have uq : ∀ (j : Nat) (k k' : Kd), (j, k) ∈ dropO i O → (j, k') ∈ dropO i O → k = k' := fun j k k' m m' => R.uq j k k' (mem_drop.mp m).1 (mem_drop.mp m').1
  have easy : (∀ kd d, (i, kd) ∈ O → ρ[i]? ≠ some (some d)) → ∃ G', Same G G' ∧ Rep K Γ G' H (dropO i O) σ ρ := fun no => by
    refine ⟨G, Same.refl _, R.base, R.len, fun j d hj e => ?_, ⟨fp, fun j kd d hj e => h1 j kd d (mem_drop.mp hj).1 e, h2⟩, par, uq⟩
    rcases nin_drop.mp hj with hj | rfl
    · exact R.fz j d hj e
    · rcases own_or (i := j) (O := O) with hi | ⟨kd, hi⟩
      · exact R.fz j d hi e
      · exact absurd e (no kd d hi)
  by_cases hd : ∃ kd d, (i, kd) ∈ O ∧ ρ[i]? = some (some d)
  · obtain ⟨kd, d, hi, q⟩ := hd
    obtain ⟨v, e1, o, n⟩ := h1 i kd d hi q
    have gg := addF_gg (H := H) fun a ha => (n a ha).2
    refine ⟨addF G H (fp i), gg, ⟨R.base.hh, R.base.gg.trans gg, addF_gh R.gh, fun a hn z => ?_⟩, R.len, fun j d' hj e => ?_, ⟨fp, fun j kd' d' hj e => ?_, h2⟩, par, uq⟩
    · rw [addF_out (fun y => hn (n a y).1)]
      exact R.base.sep a hn z
    · by_cases hji : j = i
      · subst hji
        rw [q] at e; cases e
        exact ⟨v, e1, o.freeze (lsl_of hl hi) fun a ha => (n a ha).2⟩
      · rcases nin_drop.mp hj with hj | hj
        · obtain ⟨v', f1, f2⟩ := R.fz j d' hj e
          exact ⟨v', f1, dp_mono gg d' v' f2⟩
        · exact absurd hj hji
    · obtain ⟨hj1, hj2⟩ := mem_drop.mp hj
      obtain ⟨v', f1, f2, f3⟩ := h1 j kd' d' hj1 e
      exact ⟨v', f1, f2.frame gg fun _ _ => rfl, fun a ha => ⟨(f3 a ha).1, by rw [addF_out (h2 j i a hj2 ha)]; exact (f3 a ha).2⟩⟩
  · exact easy fun kd d z e => hd ⟨kd, d, z, e⟩
end
end Dat
open PySem PySem.Spec PyProof.Rows L2
namespace Dat

/-! ### readings over data -/
abbrev Fd := Dv → Option PyData
abbrev Fl := Dv → Option (List PyData)
/-- frozen data -/
def RD (K : PySem.W.Frag) (O : Os) (F : Fd) : TE := fun σ H Q => ∃ Γ G ρ d, Rep K Γ G H O σ ρ ∧ F ρ = some d ∧ ∀ v G' H', Stp G H G' H' → Dp K G' v d → Q v H'
/-- data, or a list of the def's own, looked at -/
def RB (K : PySem.W.Frag) (O : Os) (F : Fd) : TE := fun σ H Q => ∃ Γ G ρ d, Rep K Γ G H O σ ρ ∧ F ρ = some d ∧ ∀ v G' H', Stp G H G' H' → Bd K G' H' v d → Q v H'
/-- a new list -/
def RO (K : PySem.W.Frag) (O : Os) (F : Fl) : TE := fun σ H Q => ∃ Γ G ρ ds, Rep K Γ G H O σ ρ ∧ F ρ = some ds ∧
  ∀ p xs G' H', Stp G H G' H' → H p = none → G' p = none → H' p = some (.lst xs) → DpAll K G' xs ds → Q (.ref p) H'
/-- a test -/
def RT (K : PySem.W.Frag) (O : Os) (C : Dv → Option Bool) : TT := fun σ H Q => ∃ Γ G ρ b, Rep K Γ G H O σ ρ ∧ C ρ = some b ∧ ∀ G' H', Stp G H G' H' → Q b H'
/-- arguments: frozen; looked at -/
def RA (K : PySem.W.Frag) (O : Os) (F : Fl) : TA := fun σ H Q => ∃ Γ G ρ ds, Rep K Γ G H O σ ρ ∧ F ρ = some ds ∧ ∀ vs G' H', Stp G H G' H' → DpAll K G' vs ds → Q vs H'
def RAb (K : PySem.W.Frag) (O : Os) (F : Fl) : TA := fun σ H Q => ∃ Γ G ρ ds, Rep K Γ G H O σ ρ ∧ F ρ = some ds ∧ ∀ vs G' H', Stp G H G' H' → BdAll K G' H' vs ds → Q vs H'

section
variable {X : Cx} {e a b : Expr} {pos : Pos} {O : Os} {F F' : Fd} {L : Fl}
theorem pe_imp {t t' : TE} (h : PE X e t) (w : ∀ σ H Q, t' σ H Q → t σ H Q) : PE X e t' := ⟨fun pins s σ H Q I q => h.run pins s σ H Q I (w _ _ _ q)⟩
theorem pt_imp {t t' : TT} (h : PT X e t) (w : ∀ σ H Q, t' σ H Q → t σ H Q) : PT X e t' := ⟨fun pins s σ H Q I q => h.run pins s σ H Q I (w _ _ _ q)⟩
theorem pa_imp {es : List Expr} {t t' : TA} (h : PA X es t) (w : ∀ σ H Q, t' σ H Q → t σ H Q) : PA X es t' := ⟨fun ps pins s σ H Q I q => h.run ps pins s σ H Q I (w _ _ _ q)⟩
/-- frozen data may be looked at -/
theorem d_b (h : PE X e (RD X.K O F)) : PE X e (RB X.K O F) := pe_imp h fun σ H Q ⟨Γ, G, ρ, d, R, ef, q⟩ => ⟨Γ, G, ρ, d, R, ef, fun v G' H' s dv => q v G' H' s (.inl dv)⟩
/-- a new list is frozen -/
def lstF (L : Fl) : Fd := fun ρ => (L ρ).map .list
theorem o_d (h : PE X e (RO X.K O L)) : PE X e (RD X.K O (lstF L)) := pe_imp h fun σ H Q ⟨Γ, G, ρ, d, R, ef, q⟩ => by
  unfold lstF at ef
  cases el : L ρ with
  | none => rw [el] at ef; cases ef
  | some ds =>
    rw [el] at ef
    cases ef
    refine ⟨Γ, G, ρ, ds, R, el, fun p xs G' H' s n g hp dv => q (.ref p) (upd G' p (.lst xs)) H' (s.frz n g hp) (.lst (SqL.of upd_same) (dpAll_mono (fun a u z => ?_) ds xs dv))⟩
    rw [upd_ne (ne_of_none z g)]; exact z
theorem o_b (h : PE X e (RO X.K O L)) : PE X e (RB X.K O (lstF L)) := d_b (o_d h)

/-! ### names, constants -/
def vF (i : Nat) : Fd := fun ρ => dvGet ρ i
theorem b_var (i : Nat) (h : PE X e (tVar i)) (hi : flat i O = true := by rfl) : PE X e (RB X.K O (vF i)) := pe_imp h fun σ H Q ⟨Γ, G, ρ, d, R, ef, q⟩ => by
  obtain ⟨v, h1, h2⟩ := R.bd (i := i) hi ef
  exact ⟨v, h1, q v G H (Stp.refl R.gh) h2⟩
theorem d_var (i : Nat) (h : PE X e (tVar i)) (hi : nin i O = true := by rfl) : PE X e (RD X.K O (vF i)) := pe_imp h fun σ H Q ⟨Γ, G, ρ, d, R, ef, q⟩ => by
  obtain ⟨v, h1, h2⟩ := R.dp hi ef
  exact ⟨v, h1, q v G H (Stp.refl R.gh) h2⟩
def cF (d : PyData) : Fd := fun _ => some d
theorem d_int {i : Int} {j : Nat} : PE X (.Constant (.int i) j pos) (RD X.K O (cF (.int i))) := pe_imp pe_int fun σ H Q ⟨Γ, G, ρ, d, R, ef, q⟩ => by
  cases ef; exact q _ G H (Stp.refl R.gh) (.int i)
theorem d_str {x : Str} {j : Nat} : PE X (.Constant (.str x) j pos) (RD X.K O (cF (.str x))) := pe_imp pe_str fun σ H Q ⟨Γ, G, ρ, d, R, ef, q⟩ => by
  cases ef; exact q _ G H (Stp.refl R.gh) (.str x)
theorem d_bl {x : Bool} {j : Nat} : PE X (.Constant (.bool x) j pos) (RD X.K O (cF (.bool x))) := pe_imp pe_bl fun σ H Q ⟨Γ, G, ρ, d, R, ef, q⟩ => by
  cases ef; exact q _ G H (Stp.refl R.gh) (.bl x)
theorem d_non {j : Nat} : PE X (.Constant .none j pos) (RD X.K O (cF .none)) := pe_imp pe_non fun σ H Q ⟨Γ, G, ρ, d, R, ef, q⟩ => by
  cases ef; exact q _ G H (Stp.refl R.gh) .non

/-! ### two-place operations -/
def f2 (g : PyData → PyData → Option PyData) (F F' : Fd) : Fd := fun ρ => (F ρ).bind fun x => (F' ρ).bind fun y => g x y
theorem f2_some {g : PyData → PyData → Option PyData} {ρ : Dv} {d : PyData} (h : f2 g F F' ρ = some d) : ∃ x y, F ρ = some x ∧ F' ρ = some y ∧ g x y = some d := by
  unfold f2 at h
  cases e1 : F ρ with
  | none => rw [e1] at h; cases h
  | some x =>
    cases e2 : F' ρ with
    | none => rw [e1, e2] at h; cases h
    | some y => rw [e1, e2] at h; exact ⟨x, y, rfl, rfl, h⟩
def r2D (K : PySem.W.Frag) (g : PyData → PyData → Option PyData) : R2 := fun x y H Q => ∃ G dx dy d, Same G H ∧ Bd K G H x dx ∧ Bd K G H y dy ∧ g dx dy = some d ∧ ∀ v G' H', Stp G H G' H' → Dp K G' v d → Q v H'
theorem top_imp {g : PyData → PyData → Option PyData} {σ : L2.St} {H : Hp} {Q : VK} (h : RD X.K O (f2 g F F') σ H Q) : tOp (r2D X.K g) (RB X.K O F) (RB X.K O F') σ H Q := by
  obtain ⟨Γ, G, ρ, d, R, ef, q⟩ := h
  obtain ⟨dx, dy, e1, e2, e3⟩ := f2_some ef
  refine ⟨Γ, G, ρ, dx, R, e1, fun x G1 H1 s1 bx => ⟨Γ, G1, ρ, dy, R.stp s1, e2, fun y G2 H2 s2 y2 => ⟨G2, dx, dy, d, s2.gh, bx.stp s2, y2, e3, fun v G' H' s3 dv => q v G' H' ((s1.trans s2).trans s3) dv⟩⟩⟩
theorem d_op {op : Operator} {g : PyData → PyData → Option PyData} (ho : OpR X (binaryOp op) (r2D X.K g)) (ha : PE X a (RB X.K O F)) (hb : PE X b (RB X.K O F')) : PE X (.BinOp a op b pos) (RD X.K O (f2 g F F')) :=
  pe_imp (pe_op ho ha hb) fun σ H Q h => top_imp h
theorem d_cmp {op : CmpOp} {g : PyData → PyData → Option PyData} (ho : OpR X (compareOp op) (r2D X.K g)) (ha : PE X a (RB X.K O F)) (hb : PE X b (RB X.K O F')) (hm : behindInMarks op b = false) : PE X (.Compare a [op] [b] pos) (RD X.K O (f2 g F F')) :=
  pe_imp (pe_cmpR ho ha hb hm) fun σ H Q h => top_imp h
/-- data that must be a truth value -/
def asB (F : Fd) : Dv → Option Bool := fun ρ => (F ρ).bind fun d => match d with | .bool b => some b | _ => none
theorem asB_some {ρ : Dv} {b : Bool} (h : asB F ρ = some b) : F ρ = some (.bool b) := by
  unfold asB at h
  cases e : F ρ with
  | none => rw [e] at h; cases h
  | some d =>
    rw [e] at h
    cases d with
    | bool c => cases h; rfl
    | none => cases h
    | int _ => cases h
    | str _ => cases h
    | list _ => cases h
    | tuple _ => cases h
    | dict _ => cases h
theorem rd_test {t : TE} {σ : L2.St} {H : Hp} {Q : Bool → Hp → Prop} (w : ∀ Q', RD X.K O F σ H Q' → t σ H Q') (h : RT X.K O (asB F) σ H Q) : t σ H fun x H' => ∃ k, x = .bl k ∧ Q k H' := by
  obtain ⟨Γ, G, ρ, b, R, eb, q⟩ := h
  refine w _ ⟨Γ, G, ρ, .bool b, R, asB_some eb, fun v G' H' s dv => ?_⟩
  cases dv
  exact ⟨b, rfl, q G' H' s⟩
theorem t_cmp {op : CmpOp} {g : PyData → PyData → Option PyData} (ho : OpR X (compareOp op) (r2D X.K g)) (ha : PE X a (RB X.K O F)) (hb : PE X b (RB X.K O F')) (hm : behindInMarks op b = false) : PT X (.Compare a [op] [b] pos) (RT X.K O (asB (f2 g F F'))) :=
  pt_imp (pt_cmpR ho ha hb hm) fun σ H Q h => rd_test (fun Q' h' => top_imp h') h
/-- a bool's value as a test -/
theorem t_val (h : PE X e (RD X.K O F)) (he : ∀ whole, isTrue e X.env whole = (do let v ← whole; standAt e.pos; holding [v] (truthy v)) := by intro _; rfl) : PT X e (RT X.K O (asB F)) :=
  pt_imp (pt_val h he) fun σ H Q h' => rd_test (fun Q' h'' => h'') h'
/-- chains -/
def chF (g g' : PyData → PyData → Option PyData) (F F' F'' : Fd) : Fd := fun ρ => match f2 g F F' ρ with
  | some (.bool true) => f2 g' F' F'' ρ
  | some (.bool false) => some (.bool false)
  | _ => none
theorem chain_imp {c : Expr} {F'' : Fd} {g g' : PyData → PyData → Option PyData} {σ : L2.St} {H : Hp} {Q : VK} (h : RD X.K O (chF g g' F F' F'') σ H Q) : tChain (r2D X.K g) (r2D X.K g') (RB X.K O F) (RB X.K O F') (RB X.K O F'') σ H Q := by
  obtain ⟨Γ, G, ρ, d, R, ef, q⟩ := h
  unfold chF at ef
  have hb : ∃ k, f2 g F F' ρ = some (.bool k) := by
    cases e : f2 g F F' ρ with
    | none => rw [e] at ef; cases ef
    | some z =>
      rw [e] at ef
      cases z with
      | bool k => exact ⟨k, rfl⟩
      | none => cases ef
      | int _ => cases ef
      | str _ => cases ef
      | list _ => cases ef
      | tuple _ => cases ef
      | dict _ => cases ef
  obtain ⟨k, ek⟩ := hb
  rw [ek] at ef
  obtain ⟨dx, dy, e1, e2, e3⟩ := f2_some ek
  refine ⟨Γ, G, ρ, dx, R, e1, fun x G1 H1 s1 bx => ⟨Γ, G1, ρ, dy, R.stp s1, e2, fun y G2 H2 s2 y2 => ⟨G2, dx, dy, _, s2.gh, bx.stp s2, y2, e3, fun v G3 H3 s3 dv => ?_⟩⟩⟩
  cases dv
  refine ⟨k, rfl, ?_⟩
  cases k with
  | false =>
    rw [if_neg Bool.false_ne_true]
    have ed : d = .bool false := (Option.some.inj ef).symm
    subst ed
    exact q _ G3 H3 ((s1.trans s2).trans s3) (.bl false)
  | true =>
    rw [if_pos rfl]
    obtain ⟨dy', dz, f1, f2', f3⟩ := f2_some (show f2 g' F' F'' ρ = some d from ef)
    rw [e2] at f1; cases f1
    refine ⟨Γ, G3, ρ, dz, ((R.stp s1).stp s2).stp s3, f2', fun z G4 H4 s4 bz => ⟨G4, dy, dz, d, s4.gh, (y2.stp s3).stp s4, bz, f3, fun v G' H' s5 dv => q v G' H' ((((s1.trans s2).trans s3).trans s4).trans s5) dv⟩⟩
theorem d_chain {c : Expr} {F'' : Fd} {op op' : CmpOp} {g g' : PyData → PyData → Option PyData} (ho : OpR X (compareOp op) (r2D X.K g)) (ho' : OpR X (compareOp op') (r2D X.K g')) (ha : PE X a (RB X.K O F)) (hb : PE X b (RB X.K O F')) (hc : PE X c (RB X.K O F''))
    (hm : lastMarks [op, op'] [b, c] = false := by with_unfolding_all rfl) : PE X (.Compare a [op, op'] [b, c] pos) (RD X.K O (chF g g' F F' F'')) :=
  pe_imp (pe_chain ho ho' ha hb hc hm) fun σ H Q h => chain_imp (c := c) h
theorem t_chain {c : Expr} {F'' : Fd} {op op' : CmpOp} {g g' : PyData → PyData → Option PyData} (ho : OpR X (compareOp op) (r2D X.K g)) (ho' : OpR X (compareOp op') (r2D X.K g')) (ha : PE X a (RB X.K O F)) (hb : PE X b (RB X.K O F')) (hc : PE X c (RB X.K O F''))
    (hm : lastMarks [op, op'] [b, c] = false := by with_unfolding_all rfl) : PT X (.Compare a [op, op'] [b, c] pos) (RT X.K O (asB (chF g g' F F' F''))) :=
  pt_imp (pt_chain ho ho' ha hb hc hm) fun σ H Q h => rd_test (fun Q' h' => chain_imp (c := c) h') h

/-! ### and, or, not; a if c else b -/
variable {C C' : Dv → Option Bool} {rest : List Expr}
def notT (C : Dv → Option Bool) : Dv → Option Bool := fun ρ => (C ρ).map (!·)
def andT (C C' : Dv → Option Bool) : Dv → Option Bool := fun ρ => match C ρ with | some true => C' ρ | some false => some false | none => none
def orT (C C' : Dv → Option Bool) : Dv → Option Bool := fun ρ => match C ρ with | some true => some true | some false => C' ρ | none => none
theorem t_not (h : PT X a (RT X.K O C)) : PT X (.UnaryOp .Not a pos) (RT X.K O (notT C)) := pt_imp (pt_not h) fun σ H Q ⟨Γ, G, ρ, b, R, eb, q⟩ => by
  unfold notT at eb
  cases e : C ρ with
  | none => rw [e] at eb; cases eb
  | some k => rw [e] at eb; cases eb; exact ⟨Γ, G, ρ, k, R, e, fun G' H' s => q G' H' s⟩
structure WT (X : Cx) (e : Expr) (t : TT) : Prop where
  pw : PW X e t
theorem WT.imp {t t' : TT} (h : WT X e t) (w : ∀ σ H Q, t' σ H Q → t σ H Q) : WT X e t' := ⟨⟨fun wh pins s σ H Q I q => h.pw.run wh pins s σ H Q I (w _ _ _ q)⟩⟩
theorem w_and1 (h : PT X a (RT X.K O C)) : WT X (.BoolOp .And [a] pos) (RT X.K O C) := ⟨pw_and1 h⟩
theorem w_or1 (h : PT X a (RT X.K O C)) : WT X (.BoolOp .Or [a] pos) (RT X.K O C) := ⟨pw_or1 h⟩
theorem w_and (h : PT X a (RT X.K O C)) (h' : WT X (.BoolOp .And (b :: rest) pos) (RT X.K O C')) : WT X (.BoolOp .And (a :: b :: rest) pos) (RT X.K O (andT C C')) :=
  WT.imp ⟨pw_and h h'.pw⟩ fun σ H Q ⟨Γ, G, ρ, k, R, eb, q⟩ => by
    unfold andT at eb
    cases e : C ρ with
    | none => rw [e] at eb; cases eb
    | some c =>
      rw [e] at eb
      cases c with
      | false => cases eb; exact ⟨Γ, G, ρ, false, R, e, fun G' H' s => iteF (q G' H' s)⟩
      | true => exact ⟨Γ, G, ρ, true, R, e, fun G1 H1 s1 => iteT (⟨Γ, G1, ρ, k, R.stp s1, eb, fun G' H' s => q G' H' (s1.trans s)⟩)⟩
theorem w_or (h : PT X a (RT X.K O C)) (h' : WT X (.BoolOp .Or (b :: rest) pos) (RT X.K O C')) : WT X (.BoolOp .Or (a :: b :: rest) pos) (RT X.K O (orT C C')) :=
  WT.imp ⟨pw_or h h'.pw⟩ fun σ H Q ⟨Γ, G, ρ, k, R, eb, q⟩ => by
    unfold orT at eb
    cases e : C ρ with
    | none => rw [e] at eb; cases eb
    | some c =>
      rw [e] at eb
      cases c with
      | true => cases eb; exact ⟨Γ, G, ρ, true, R, e, fun G' H' s => iteT (q G' H' s)⟩
      | false => exact ⟨Γ, G, ρ, false, R, e, fun G1 H1 s1 => iteF (⟨Γ, G1, ρ, k, R.stp s1, eb, fun G' H' s => q G' H' (s1.trans s)⟩)⟩
theorem t_w (h : WT X e (RT X.K O C)) : PT X e (RT X.K O C) := h.pw.pt
/-- .. as values -/
def blF (C : Dv → Option Bool) : Fd := fun ρ => (C ρ).map .bool
theorem blF_some {ρ : Dv} {d : PyData} (h : blF C ρ = some d) : ∃ b, C ρ = some b ∧ d = .bool b := by
  unfold blF at h
  cases e : C ρ with
  | none => rw [e] at h; cases h
  | some b => rw [e] at h; cases h; exact ⟨b, rfl, rfl⟩
theorem d_not (h : PE X a (RD X.K O F)) : PE X (.UnaryOp .Not a pos) (RD X.K O (blF (notT (asB F)))) := pe_imp (pe_not h) fun σ H Q ⟨Γ, G, ρ, d, R, ef, q⟩ => by
  obtain ⟨b, eb, rfl⟩ := blF_some ef
  unfold notT at eb
  cases e : asB F ρ with
  | none => rw [e] at eb; cases eb
  | some k =>
    rw [e] at eb; cases eb
    refine ⟨Γ, G, ρ, .bool k, R, asB_some e, fun v G' H' s dv => ?_⟩
    cases dv
    exact ⟨k, rfl, q _ G' H' s (.bl _)⟩
theorem d_one {op : BoolOp} (h : PE X a (RD X.K O F)) : PE X (.BoolOp op [a] pos) (RD X.K O F) := pe_one h
/-- the first of two operands is a truth value; the last may be anything -/
def andF (F F' : Fd) : Fd := fun ρ => match F ρ with | some (.bool true) => F' ρ | some (.bool false) => some (.bool false) | _ => none
def orF (F F' : Fd) : Fd := fun ρ => match F ρ with | some (.bool true) => some (.bool true) | some (.bool false) => F' ρ | _ => none
theorem boolOf {x : Option PyData} {y : PyData} {f g : Option PyData} (h : (match x with | some (.bool true) => f | some (.bool false) => g | _ => none) = some y) : (x = some (.bool true) ∧ f = some y) ∨ (x = some (.bool false) ∧ g = some y) := by
  cases x with
  | none => cases h
  | some z =>
    cases z with
    | bool k => cases k with
      | true => exact .inl ⟨rfl, h⟩
      | false => exact .inr ⟨rfl, h⟩
    | none => cases h
    | int _ => cases h
    | str _ => cases h
    | list _ => cases h
    | tuple _ => cases h
    | dict _ => cases h
theorem d_and (h : PE X a (RD X.K O F)) (h' : PE X (.BoolOp .And (b :: rest) pos) (RD X.K O F')) : PE X (.BoolOp .And (a :: b :: rest) pos) (RD X.K O (andF F F')) :=
  pe_imp (pe_and h h') fun σ H Q ⟨Γ, G, ρ, d, R, ef, q⟩ => by
    rcases boolOf ef with ⟨e1, e2⟩ | ⟨e1, e2⟩
    · exact ⟨Γ, G, ρ, _, R, e1, fun v G1 H1 s1 dv => by cases dv; exact ⟨true, rfl, iteT (⟨Γ, G1, ρ, d, R.stp s1, e2, fun v G' H' s dv => q v G' H' (s1.trans s) dv⟩)⟩⟩
    · cases e2; exact ⟨Γ, G, ρ, _, R, e1, fun v G1 H1 s1 dv => by cases dv; exact ⟨false, rfl, iteF (q _ G1 H1 s1 (.bl false))⟩⟩
theorem d_or (h : PE X a (RD X.K O F)) (h' : PE X (.BoolOp .Or (b :: rest) pos) (RD X.K O F')) : PE X (.BoolOp .Or (a :: b :: rest) pos) (RD X.K O (orF F F')) :=
  pe_imp (pe_or h h') fun σ H Q ⟨Γ, G, ρ, d, R, ef, q⟩ => by
    rcases boolOf ef with ⟨e1, e2⟩ | ⟨e1, e2⟩
    · cases e2; exact ⟨Γ, G, ρ, _, R, e1, fun v G1 H1 s1 dv => by cases dv; exact ⟨true, rfl, iteT (q _ G1 H1 s1 (.bl true))⟩⟩
    · exact ⟨Γ, G, ρ, _, R, e1, fun v G1 H1 s1 dv => by cases dv; exact ⟨false, rfl, iteF (⟨Γ, G1, ρ, d, R.stp s1, e2, fun v G' H' s dv => q v G' H' (s1.trans s) dv⟩)⟩⟩
def ifF (C : Dv → Option Bool) (F F' : Fd) : Fd := fun ρ => match C ρ with | some true => F ρ | some false => F' ρ | none => none
theorem d_ifExp {c : Expr} (hc : PT X c (RT X.K O C)) (h : PE X a (RD X.K O F)) (h' : PE X b (RD X.K O F')) : PE X (.IfExp c a b pos) (RD X.K O (ifF C F F')) :=
  pe_imp (pe_ifExp hc h h') fun σ H Q ⟨Γ, G, ρ, d, R, ef, q⟩ => by
    unfold ifF at ef
    cases e : C ρ with
    | none => rw [e] at ef; cases ef
    | some k =>
      rw [e] at ef
      cases k with
      | true => exact ⟨Γ, G, ρ, true, R, e, fun G1 H1 s1 => iteT (⟨Γ, G1, ρ, d, R.stp s1, ef, fun v G' H' s dv => q v G' H' (s1.trans s) dv⟩)⟩
      | false => exact ⟨Γ, G, ρ, false, R, e, fun G1 H1 s1 => iteF (⟨Γ, G1, ρ, d, R.stp s1, ef, fun v G' H' s dv => q v G' H' (s1.trans s) dv⟩)⟩

/-! ### argument lists, tuples, lists written -/
variable {es : List Expr}
def nilA : Fl := fun _ => some []
def consA (F : Fd) (L : Fl) : Fl := fun ρ => (F ρ).bind fun d => (L ρ).map fun ds => d :: ds
theorem consA_some {ρ : Dv} {ds : List PyData} (h : consA F L ρ = some ds) : ∃ d r, F ρ = some d ∧ L ρ = some r ∧ ds = d :: r := by
  unfold consA at h
  cases e1 : F ρ with
  | none => rw [e1] at h; cases h
  | some d =>
    cases e2 : L ρ with
    | none => rw [e1, e2] at h; cases h
    | some r => rw [e1, e2] at h; cases h; exact ⟨d, r, rfl, rfl, rfl⟩
theorem a_nil : PA X [] (RA X.K O nilA) := pa_imp pa_nil fun σ H Q ⟨Γ, G, ρ, ds, R, ef, q⟩ => by cases ef; exact q [] G H (Stp.refl R.gh) .nil
theorem a_cons (h : PE X e (RD X.K O F)) (h' : PA X es (RA X.K O L)) (hs : starEach (e :: es) X.env = (false, eval e X.env) :: starEach es X.env := by rfl) : PA X (e :: es) (RA X.K O (consA F L)) :=
  pa_imp (pa_cons h h' hs) fun σ H Q ⟨Γ, G, ρ, ds, R, ef, q⟩ => by
    obtain ⟨d, r, e1, e2, rfl⟩ := consA_some ef
    exact ⟨Γ, G, ρ, d, R, e1, fun v G1 H1 s1 dv => ⟨Γ, G1, ρ, r, R.stp s1, e2, fun vs G' H' s da => q (v :: vs) G' H' (s1.trans s) (.cons (dp_mono s.gg _ _ dv) da)⟩⟩
theorem ab_nil : PA X [] (RAb X.K O nilA) := pa_imp pa_nil fun σ H Q ⟨Γ, G, ρ, ds, R, ef, q⟩ => by cases ef; exact q [] G H (Stp.refl R.gh) .nil
theorem ab_cons (h : PE X e (RB X.K O F)) (h' : PA X es (RAb X.K O L)) (hs : starEach (e :: es) X.env = (false, eval e X.env) :: starEach es X.env := by rfl) : PA X (e :: es) (RAb X.K O (consA F L)) :=
  pa_imp (pa_cons h h' hs) fun σ H Q ⟨Γ, G, ρ, ds, R, ef, q⟩ => by
    obtain ⟨d, r, e1, e2, rfl⟩ := consA_some ef
    exact ⟨Γ, G, ρ, d, R, e1, fun v G1 H1 s1 dv => ⟨Γ, G1, ρ, r, R.stp s1, e2, fun vs G' H' s da => q (v :: vs) G' H' (s1.trans s) (.cons (dv.stp s) da)⟩⟩
/-- a displayed tuple or list has few items -/
def few (L : Fl) : Fl := fun ρ => (L ρ).bind fun ds => if ds.length ≤ 1000 then some ds else none
theorem few_some {ρ : Dv} {ds : List PyData} (h : few L ρ = some ds) : L ρ = some ds ∧ ds.length ≤ 1000 := by
  unfold few at h
  cases e : L ρ with
  | none => rw [e] at h; cases h
  | some r =>
    rw [e] at h
    by_cases hl : r.length ≤ 1000
    · have h' : (if r.length ≤ 1000 then some r else none) = some ds := h
      rw [if_pos hl] at h'; cases h'; exact ⟨rfl, hl⟩
    · have h' : (if r.length ≤ 1000 then some r else none) = some ds := h
      rw [if_neg hl] at h'; cases h'
def tupF (L : Fl) : Fd := fun ρ => (few L ρ).map .tuple
theorem d_tup {k : Nat} (h : PA X es (RA X.K O L)) : PE X (.Tuple es k pos) (RD X.K O (tupF L)) := pe_imp (pe_tup h) fun σ H Q ⟨Γ, G, ρ, d, R, ef, q⟩ => by
  unfold tupF at ef
  cases e : few L ρ with
  | none => rw [e] at ef; cases ef
  | some ds =>
    rw [e] at ef; cases ef
    obtain ⟨e1, hl⟩ := few_some e
    refine ⟨Γ, G, ρ, ds, R, e1, fun vs G1 H1 s1 da => ⟨by rw [da.length]; exact Nat.le_of_lt (small1000 hl), fun p hp => ?_⟩⟩
    have sg := Stp.newF (p := p) (o := .tup vs) s1.gh hp
    exact q _ _ _ (s1.trans sg) (.tup (SqT.of upd_same) (dpAll_mono sg.gg ds vs da))
theorem o_lst (h : PA X es (RA X.K O L)) : PE X (.List es pos) (RO X.K O (few L)) := pe_imp (pe_lst h) fun σ H Q ⟨Γ, G, ρ, ds, R, ef, q⟩ => by
  obtain ⟨e1, hl⟩ := few_some ef
  refine ⟨Γ, G, ρ, ds, R, e1, fun vs G1 H1 s1 da => ⟨by rw [da.length]; exact Nat.le_of_lt (small1000 hl), fun p hp => ?_⟩⟩
  have sg := Stp.new (p := p) (o := .lst vs) s1.gh hp
  exact q p vs G1 _ (s1.trans sg) (s1.hh.free hp) (s1.gh.free hp) upd_same da
end
end Dat
open PySem PySem.Spec PyProof.Rows L2
namespace Dat

/-! ### operators on data -/
def dAdd : PyData → PyData → Option PyData
  | .int i, .int j => some (.int (i + j))
  | .str x, .str y => if x.length + y.length ≤ 16777216 then some (.str (x ++ y)) else none
  | .list xs, .list ys => if xs.length + ys.length ≤ 16777216 then some (.list (xs ++ ys)) else none
  | .tuple xs, .tuple ys => if xs.length + ys.length ≤ 16777216 ∧ xs ≠ [] then some (.tuple (xs ++ ys)) else none
  | _, _ => none
def dSub : PyData → PyData → Option PyData
  | .int i, .int j => some (.int (i - j))
  | _, _ => none
def dMul : PyData → PyData → Option PyData
  | .int i, .int j => if (-(2 ^ 64) < i ∧ i < 2 ^ 64) ∨ (-(2 ^ 64) < j ∧ j < 2 ^ 64) then some (.int (i * j)) else none
  | _, _ => none
def dMod : PyData → PyData → Option PyData
  | .int i, .int j => if 0 < j then some (.int (i % j)) else none
  | _, _ => none
def dDiv : PyData → PyData → Option PyData
  | .int i, .int j => if 0 < j ∧ j < 1073741824 then some (.int (i / j)) else none
  | _, _ => none
def dPow : PyData → PyData → Option PyData
  | .int i, .int j => if 0 ≤ j ∧ j ≤ 1000000 ∧ i.natAbs < 2 ^ 64 then some (.int (i ^ j.toNat)) else none
  | _, _ => none
theorem line_eq : sizeLine = 16777216 := rfl

section
variable {X : Cx}
theorem add_plain {prog : Program} {w : World} {A : Around} {E : Value → Shared → Prop} {s : Shared} {l b : Addr} {vs ws : List Value} {Q : Value → Shared → Prop} (hl : s.heap.IsList l vs.toArray) (hb : s.heap.IsList b ws.toArray)
    (h : Q (.ref s.heap.objs.size) { s with heap := s.heap.push { cls := .type "list", data := .seq (vs ++ ws).toArray } }) (hsz : vs.length + ws.length ≤ sizeLine) : wpAny (model prog w) A (binaryOp .Add (.ref l) (.ref b)) Q E s := by
  obtain ⟨⟨cls, dd, data, sl⟩, ho, hc, n, hd⟩ := id hl
  obtain ⟨⟨cls2, dd2, data2, sl2⟩, ho2, hc2, n2, hd2⟩ := id hb
  simp only at hc hd hc2 hd2
  subst hc hd hc2 hd2
  have e : vs.toArray ++ ws.toArray = (vs ++ ws).toArray := by simp
  refine concat_meets ⟨_, ho, rfl⟩ ⟨_, ho2, rfl⟩ noFill_list_add seq_list_add PySem.F.slot_list_add PySem.F.entry_list_add (PySem.F.args_list_add_2 _ _) (list_addW l b vs.toArray ws.toArray n n2 dd dd2 sl sl2 (by simpa using hsz)) ⟨ho, ho2, ?_⟩
  rw [e]
  exact h
theorem dAdd_some {x y d : PyData} (h : dAdd x y = some d) : (∃ i j, x = .int i ∧ y = .int j ∧ d = .int (i + j)) ∨ (∃ a b, x = .str a ∧ y = .str b ∧ a.length + b.length ≤ 16777216 ∧ d = .str (a ++ b)) ∨
    (∃ xs ys, x = .list xs ∧ y = .list ys ∧ xs.length + ys.length ≤ 16777216 ∧ d = .list (xs ++ ys)) ∨ (∃ xs ys, x = .tuple xs ∧ y = .tuple ys ∧ (xs.length + ys.length ≤ 16777216 ∧ xs ≠ []) ∧ d = .tuple (xs ++ ys)) := by
  cases x <;> cases y <;> simp only [dAdd] at h <;> first | (cases h; done) | skip
  · cases h; exact .inl ⟨_, _, rfl, rfl, rfl⟩
  · split at h
    · cases h; exact .inr (.inl ⟨_, _, rfl, rfl, by assumption, rfl⟩)
    · cases h
  · split at h
    · cases h; exact .inr (.inr (.inl ⟨_, _, rfl, rfl, by assumption, rfl⟩))
    · cases h
  · split at h
    · cases h; exact .inr (.inr (.inr ⟨_, _, rfl, rfl, by assumption, rfl⟩))
    · cases h
theorem op_dAdd : OpR X (binaryOp .Add) (r2D X.K dAdd) := by
  intro pins s σ H x y v u Q I rx ry ⟨G, dx, dy, d, gh, bx, b2, eg, q⟩
  rcases dAdd_some eg with ⟨i, j, rfl, rfl, rfl⟩ | ⟨a, b, rfl, rfl, hl, rfl⟩ | ⟨xs, ys, rfl, rfl, hl, rfl⟩ | ⟨xs, ys, rfl, rfl, ⟨hl, hn⟩, rfl⟩
  · exact op_add pins s σ H x y v u Q I rx ry ⟨i, j, bx.int, b2.int, q _ G H (Stp.refl gh) (.int _)⟩
  · exact op_add_str pins s σ H x y v u Q I rx ry ⟨a, b, bx.str, b2.str, hl, q _ G H (Stp.refl gh) (.str _)⟩
  · obtain ⟨p, vs, rfl, hp, da⟩ := bx.list gh
    obtain ⟨p2, vs2, rfl, hp2, da2⟩ := b2.list gh
    cases rx
    cases ry
    obtain ⟨its, rv, pl, _⟩ := I.list hp
    obtain ⟨its2, rv2, pl2, _⟩ := I.list hp2
    have l1 := rv.length
    have l2 := rv2.length
    have l3 := da.length
    have l4 := da2.length
    have l5 := line_eq
    refine add_plain pl.isList pl2.isList ?_ (by omega)
    have hn : H s.heap.objs.size = none := I.fresh
    have sg := Stp.newF (p := s.heap.objs.size) (o := .lst (vs ++ vs2)) gh hn
    exact ⟨.ref _, _, I.lnew (t' := s.toks) (rv.append rv2) (by rw [List.length_append]; omega), rfl, q _ _ _ sg (.lst (SqL.of upd_same) ((dpAll_mono sg.gg _ _ da).append (dpAll_mono sg.gg _ _ da2)))⟩
  · obtain ⟨p, vs, rfl, hp, da⟩ := bx.tup gh
    obtain ⟨p2, vs2, rfl, hp2, da2⟩ := b2.tup gh
    have l3 := da.length
    have l4 := da2.length
    refine op_catT pins s σ H _ _ v u Q I rx ry ⟨p, p2, vs, vs2, rfl, rfl, hp, hp2, fun z => hn (by subst z; cases da; rfl), by rw [line_eq]; omega, fun z => ?_, fun z p' hp' => ?_⟩
    · subst z
      cases da2
      have dx : Dp X.K G (.ref p) (.tuple xs) := by
        rcases bx with b | ⟨_, _, _, _, e, _⟩
        · exact b
        · cases e
      rw [List.append_nil] at q
      exact q _ G H (Stp.refl gh) dx
    · have sg := Stp.newF (p := p') (o := .tup (vs ++ vs2)) gh hp'
      exact q _ _ _ sg (.tup (SqT.of upd_same) ((dpAll_mono sg.gg _ _ da).append (dpAll_mono sg.gg _ _ da2)))
theorem op_of {f : Value → Value → Sem Value} {g : PyData → PyData → Option PyData} {r : R2} (h : OpR X f r)
    (k : ∀ G x y dx dy d H (Q : VK), Same G H → Bd X.K G H x dx → Bd X.K G H y dy → g dx dy = some d → (∀ v G' H', Stp G H G' H' → Dp X.K G' v d → Q v H') → r x y H Q) : OpR X f (r2D X.K g) :=
  fun pins s σ H x y v u Q I rx ry ⟨G, dx, dy, d, gh, bx, b2, eg, q⟩ => h pins s σ H x y v u Q I rx ry (k G x y dx dy d H Q gh bx b2 eg q)
theorem op_dSub : OpR X (binaryOp .Sub) (r2D X.K dSub) := op_of op_sub fun G x y dx dy d H Q gh bx b2 eg q => by
  cases dx <;> cases dy <;> simp only [dSub] at eg <;> first | (cases eg; done) | skip
  cases eg; exact ⟨_, _, bx.int, b2.int, q _ G H (Stp.refl gh) (.int _)⟩
theorem op_dMul : OpR X (binaryOp .Mult) (r2D X.K dMul) := op_of op_mul fun G x y dx dy d H Q gh bx b2 eg q => by
  cases dx <;> cases dy <;> simp only [dMul] at eg <;> first | (cases eg; done) | skip
  split at eg
  · cases eg; exact ⟨_, _, bx.int, b2.int, by assumption, q _ G H (Stp.refl gh) (.int _)⟩
  · cases eg
theorem op_dMod : OpR X (binaryOp .Mod) (r2D X.K dMod) := op_of op_mod fun G x y dx dy d H Q gh bx b2 eg q => by
  cases dx <;> cases dy <;> simp only [dMod] at eg <;> first | (cases eg; done) | skip
  split at eg
  · cases eg; exact ⟨_, _, bx.int, b2.int, by assumption, q _ G H (Stp.refl gh) (.int _)⟩
  · cases eg
theorem op_dDiv : OpR X (binaryOp .FloorDiv) (r2D X.K dDiv) := op_of op_fdiv fun G x y dx dy d H Q gh bx b2 eg q => by
  cases dx <;> cases dy <;> simp only [dDiv] at eg <;> first | (cases eg; done) | skip
  split at eg
  · cases eg; exact ⟨_, _, bx.int, b2.int, by assumption, q _ G H (Stp.refl gh) (.int _)⟩
  · cases eg
theorem op_dPow : OpR X (binaryOp .Pow) (r2D X.K dPow) := op_of op_pow fun G x y dx dy d H Q gh bx b2 eg q => by
  cases dx <;> cases dy <;> simp only [dPow] at eg <;> first | (cases eg; done) | skip
  split at eg
  · cases eg; exact ⟨_, _, bx.int, b2.int, by assumption, q _ G H (Stp.refl gh) (.int _)⟩
  · cases eg
/-- -x -/
def f1 (g : PyData → Option PyData) (F : Fd) : Fd := fun ρ => (F ρ).bind g
def dNeg : PyData → Option PyData
  | .int i => some (.int (-i))
  | _ => none
theorem d_neg {a : Expr} {pos : Pos} {O : Os} {F : Fd} (h : PE X a (RB X.K O F)) : PE X (.UnaryOp .USub a pos) (RD X.K O (f1 dNeg F)) := pe_imp (pe_un un_neg h) fun σ H Q ⟨Γ, G, ρ, d, R, ef, q⟩ => by
  unfold f1 at ef
  cases e : F ρ with
  | none => rw [e] at ef; cases ef
  | some z =>
    rw [e] at ef
    cases z with
    | int i => cases ef; exact ⟨Γ, G, ρ, _, R, e, fun v G' H' s b => ⟨i, b.int, q _ G' H' s (.int _)⟩⟩
    | none => cases ef
    | bool _ => cases ef
    | str _ => cases ef
    | list _ => cases ef
    | tuple _ => cases ef
    | dict _ => cases ef

/-! ### comparisons: ==, != of any data; < of whole numbers, of alike data; in -/
/-- not deeper than a hundred -/
def shal (d : PyData) : Bool := decide (d.depth ≤ 100)
def dEq (x y : PyData) : Option PyData := if shal x ∨ shal y then some (.bool (PyData.eqv x y)) else none
def dNe (x y : PyData) : Option PyData := if shal x ∨ shal y then some (.bool (!PyData.eqv x y)) else none
theorem shal_min {x y : PyData} {n : Nat} (h : shal x = true ∨ shal y = true) (hu : n + 200 < cLine) : n + min x.depth y.depth < cLine := by
  have h' : x.depth ≤ 100 ∨ y.depth ≤ 100 := by
    rcases h with h | h
    · exact .inl (of_decide_eq_true h)
    · exact .inr (of_decide_eq_true h)
  omega
theorem op_dEq (hu : X.A.units + 200 < cLine) : OpR X (compareOp .Eq) (r2D X.K dEq) := by
  intro pins s σ H x y v u Q I rx ry ⟨G, dx, dy, d, gh, bx, b2, eg, q⟩
  unfold dEq at eg
  split at eg
  · rename_i hs
    cases eg
    obtain ⟨as, r1⟩ := Dp.reads I dx x v (bx.dp gh) rx
    obtain ⟨bs, r2⟩ := Dp.reads I dy y u (b2.dp gh) ry
    exact SeqAt.eq_plain r1 r2 (bx.plain gh) (b2.plain gh) (shal_min hs hu) ⟨.bl _, H, I, rfl, q _ G H (Stp.refl gh) (.bl _)⟩
  · cases eg
theorem op_dNe (hu : X.A.units + 200 < cLine) : OpR X (compareOp .NotEq) (r2D X.K dNe) := by
  intro pins s σ H x y v u Q I rx ry ⟨G, dx, dy, d, gh, bx, b2, eg, q⟩
  unfold dNe at eg
  split at eg
  · rename_i hs
    cases eg
    obtain ⟨as, r1⟩ := Dp.reads I dx x v (bx.dp gh) rx
    obtain ⟨bs, r2⟩ := Dp.reads I dy y u (b2.dp gh) ry
    exact SeqAt.ne_plain r1 r2 (bx.plain gh) (b2.plain gh) (shal_min hs hu) ⟨.bl _, H, I, rfl, q _ G H (Stp.refl gh) (.bl _)⟩
  · cases eg
def dLt : PyData → PyData → Option PyData
  | .int i, .int j => some (.bool (decide (i < j)))
  | .tuple xs, .tuple ys => if PySem.W.alike (.tuple xs) (.tuple ys) ∧ (shal (.tuple xs) ∨ shal (.tuple ys)) then some (.bool (PySem.W.dataLt (.tuple xs) (.tuple ys))) else none
  | _, _ => none
def dLe : PyData → PyData → Option PyData
  | .int i, .int j => some (.bool (decide (i ≤ j)))
  | _, _ => none
def dGt : PyData → PyData → Option PyData
  | .int i, .int j => some (.bool (decide (j < i)))
  | _, _ => none
def dGe : PyData → PyData → Option PyData
  | .int i, .int j => some (.bool (decide (j ≤ i)))
  | _, _ => none
theorem op_dLt (hu : X.A.units + 200 < cLine) : OpR X (compareOp .Lt) (r2D X.K dLt) := by
  intro pins s σ H x y v u Q I rx ry ⟨G, dx, dy, d, gh, bx, b2, eg, q⟩
  have two : (∃ i j, dx = .int i ∧ dy = .int j ∧ d = .bool (decide (i < j))) ∨ (∃ xs ys, dx = .tuple xs ∧ dy = .tuple ys ∧ PySem.W.alike (.tuple xs) (.tuple ys) = true ∧ (shal (.tuple xs) = true ∨ shal (.tuple ys) = true) ∧ d = .bool (PySem.W.dataLt (.tuple xs) (.tuple ys))) := by
    cases dx <;> cases dy <;> simp only [dLt] at eg <;> first | (cases eg; done) | skip
    · cases eg; exact .inl ⟨_, _, rfl, rfl, rfl⟩
    · split at eg
      · rename_i hs
        cases eg; exact .inr ⟨_, _, rfl, rfl, hs.1, hs.2, rfl⟩
      · cases eg
  rcases two with ⟨i, j, rfl, rfl, rfl⟩ | ⟨xs, ys, rfl, rfl, ha, hs, rfl⟩
  · exact op_lt pins s σ H x y v u Q I rx ry ⟨i, j, bx.int, b2.int, q _ G H (Stp.refl gh) (.bl _)⟩
  · obtain ⟨as, r1⟩ := Dp.reads I _ x v (bx.dp gh) rx
    obtain ⟨bs, r2⟩ := Dp.reads I _ y u (b2.dp gh) ry
    exact PySem.W.lt_data r1 r2 ha (fun z => nomatch z) (shal_min hs hu) ⟨.bl _, H, I, rfl, q _ G H (Stp.refl gh) (.bl _)⟩
theorem op_dLe : OpR X (compareOp .LtE) (r2D X.K dLe) := op_of op_le fun G x y dx dy d H Q gh bx b2 eg q => by
  cases dx <;> cases dy <;> simp only [dLe] at eg <;> first | (cases eg; done) | skip
  cases eg; exact ⟨_, _, bx.int, b2.int, q _ G H (Stp.refl gh) (.bl _)⟩
theorem op_dGt : OpR X (compareOp .Gt) (r2D X.K dGt) := op_of op_gt fun G x y dx dy d H Q gh bx b2 eg q => by
  cases dx <;> cases dy <;> simp only [dGt] at eg <;> first | (cases eg; done) | skip
  cases eg; exact ⟨_, _, bx.int, b2.int, q _ G H (Stp.refl gh) (.bl _)⟩
theorem op_dGe : OpR X (compareOp .GtE) (r2D X.K dGe) := op_of op_ge fun G x y dx dy d H Q gh bx b2 eg q => by
  cases dx <;> cases dy <;> simp only [dGe] at eg <;> first | (cases eg; done) | skip
  cases eg; exact ⟨_, _, bx.int, b2.int, q _ G H (Stp.refl gh) (.bl _)⟩
def anyEq (xs : List PyData) (d : PyData) : Bool := xs.any fun y => PyData.eqv y d
def dIn : PyData → PyData → Option PyData
  | d, .list xs => if shal (.list xs) ∨ shal d then some (.bool (anyEq xs d)) else none
  | d, .tuple xs => if shal (.tuple xs) ∨ shal d then some (.bool (anyEq xs d)) else none
  | _, _ => none
def dNotIn : PyData → PyData → Option PyData
  | d, .list xs => if shal (.list xs) ∨ shal d then some (.bool (!anyEq xs d)) else none
  | d, .tuple xs => if shal (.tuple xs) ∨ shal d then some (.bool (!anyEq xs d)) else none
  | _, _ => none
theorem shal_minL {xs : List PyData} {y : PyData} {n : Nat} (h : shal (.list xs) = true ∨ shal y = true) (hu : n + 200 < cLine) : n + 1 + min (PyData.depthAll xs) y.depth < cLine := by
  have h' : PyData.depth (.list xs) ≤ 100 ∨ y.depth ≤ 100 := by
    rcases h with h | h
    · exact .inl (of_decide_eq_true h)
    · exact .inr (of_decide_eq_true h)
  simp only [PyData.depth] at h'
  omega
theorem shal_minT {xs : List PyData} {y : PyData} {n : Nat} (h : shal (.tuple xs) = true ∨ shal y = true) (hu : n + 200 < cLine) : n + 1 + min (PyData.depthAll xs) y.depth < cLine := by
  have h' : PyData.depth (.tuple xs) ≤ 100 ∨ y.depth ≤ 100 := by
    rcases h with h | h
    · exact .inl (of_decide_eq_true h)
    · exact .inr (of_decide_eq_true h)
  simp only [PyData.depth] at h'
  omega
theorem plainL {xs : List PyData} (h : PyData.plain (.list xs) = true) : PyData.plainAll xs = true := by simpa only [PyData.plain] using h
theorem plainT {xs : List PyData} (h : PyData.plain (.tuple xs) = true) : PyData.plainAll xs = true := by simpa only [PyData.plain] using h
theorem op_dIn (hu : X.A.units + 200 < cLine) : OpR X (compareOp .In) (r2D X.K dIn) := by
  intro pins s σ H x y v u Q I rx ry ⟨G, dx, dy, d, gh, bx, b2, eg, q⟩
  obtain ⟨as, r1⟩ := Dp.reads I dx x v (bx.dp gh) rx
  obtain ⟨bs, r2⟩ := Dp.reads I dy y u (b2.dp gh) ry
  cases dy <;> simp only [dIn] at eg <;> first | (cases eg; done) | skip
  · split at eg
    · rename_i hs
      cases eg
      exact SeqAt.in_list_data r2 r1 (plainL (b2.plain gh)) (bx.plain gh) (shal_minL hs hu) ⟨.bl _, H, I, rfl, q _ G H (Stp.refl gh) (.bl _)⟩
    · cases eg
  · split at eg
    · rename_i hs
      cases eg
      exact SeqAt.in_tuple_data r2 r1 (plainT (b2.plain gh)) (bx.plain gh) (shal_minT hs hu) ⟨.bl _, H, I, rfl, q _ G H (Stp.refl gh) (.bl _)⟩
    · cases eg
theorem op_dNotIn (hu : X.A.units + 200 < cLine) : OpR X (compareOp .NotIn) (r2D X.K dNotIn) := by
  intro pins s σ H x y v u Q I rx ry ⟨G, dx, dy, d, gh, bx, b2, eg, q⟩
  obtain ⟨as, r1⟩ := Dp.reads I dx x v (bx.dp gh) rx
  obtain ⟨bs, r2⟩ := Dp.reads I dy y u (b2.dp gh) ry
  cases dy <;> simp only [dNotIn] at eg <;> first | (cases eg; done) | skip
  · split at eg
    · rename_i hs
      cases eg
      exact SeqAt.notIn_list_data r2 r1 (plainL (b2.plain gh)) (bx.plain gh) (shal_minL hs hu) ⟨.bl _, H, I, rfl, q _ G H (Stp.refl gh) (.bl _)⟩
    · cases eg
  · split at eg
    · rename_i hs
      cases eg
      exact SeqAt.notIn_tuple_data r2 r1 (plainT (b2.plain gh)) (bx.plain gh) (shal_minT hs hu) ⟨.bl _, H, I, rfl, q _ G H (Stp.refl gh) (.bl _)⟩
    · cases eg
end
end Dat
open PySem PySem.Spec PyProof.Rows L2
namespace Dat

/-! ### subscripts -/
def dIx : PyData → PyData → Option PyData
  | .list xs, .int i => atI xs i
  | .tuple xs, .int i => atI xs i
  | _, _ => none
theorem atI_dp {K : PySem.W.Frag} {G : Hp} {vs : List V} {ds : List PyData} {i : Int} {d : PyData} (h : DpAll K G vs ds) (e : atI ds i = some d) : ∃ v, atI vs i = some v ∧ Dp K G v d := by
  unfold atI at e ⊢
  rw [h.length]
  cases q : ixN ds.length i with
  | none => rw [q] at e; cases e
  | some j =>
    rw [q] at e
    exact h.get (i := j) e
section
variable {X : Cx} {a b : Expr} {pos : Pos} {O : Os} {F F' : Fd} {L : Fl}
theorem ix_dIx : IxR X (r2D X.K dIx) := by
  intro value slice pins s σ H x y v u Q I rx ry ⟨G, dx, dy, d, gh, bx, b2, eg, q⟩ hs
  cases dx <;> cases dy <;> simp only [dIx] at eg <;> first | (cases eg; done) | skip
  · obtain ⟨p, vs, rfl, hp, da⟩ := bx.list gh
    obtain ⟨w, ew, dw⟩ := atI_dp da eg
    exact ix_list value slice pins s σ H _ y v u Q I rx ry ⟨p, vs, _, w, rfl, b2.int, hp, ew, q w G H (Stp.refl gh) dw⟩ hs
  · obtain ⟨p, vs, rfl, hp, da⟩ := bx.tup gh
    obtain ⟨w, ew, dw⟩ := atI_dp da eg
    exact ix_tup value slice pins s σ H _ y v u Q I rx ry ⟨p, vs, _, w, rfl, b2.int, hp, ew, q w G H (Stp.refl gh) dw⟩ hs
theorem d_ix (ha : PE X a (RB X.K O F)) (hb : PE X b (RB X.K O F')) (hs : PlainIx b) : PE X (.Subscript a b pos) (RD X.K O (f2 dIx F F')) :=
  pe_imp (pe_ix ix_dIx ha hb hs) fun σ H Q h => top_imp h

/-! ### slices -/
def RP (K : PySem.W.Frag) (O : Os) (P : Dv → Option (Option Int)) : TO := fun σ H Q => ∃ Γ G ρ o, Rep K Γ G H O σ ρ ∧ P ρ = some o ∧ ∀ G' H', Stp G H G' H' → Q o H'
def noP : Dv → Option (Option Int) := fun _ => some none
def asI (F : Fd) : Dv → Option Int := fun ρ => (F ρ).bind fun d => match d with | .int i => some i | _ => none
theorem asI_some {ρ : Dv} {i : Int} (h : asI F ρ = some i) : F ρ = some (.int i) := by
  unfold asI at h
  cases e : F ρ with
  | none => rw [e] at h; cases h
  | some d =>
    rw [e] at h
    cases d <;> first | (cases h; rfl) | (cases h; done)
def someP (F : Fd) : Dv → Option (Option Int) := fun ρ => (asI F ρ).map some
theorem p_none : PO X none (RP X.K O noP) := ⟨fun pins s σ H Q I ⟨Γ, G, ρ, o, R, e, q⟩ => by cases e; exact po_none.run pins s σ H Q I (q G H (Stp.refl R.gh))⟩
theorem p_some (h : PE X a (RB X.K O F)) : PO X (some a) (RP X.K O (someP F)) := ⟨fun pins s σ H Q I ⟨Γ, G, ρ, o, R, e, q⟩ => by
  unfold someP at e
  cases e1 : asI F ρ with
  | none => rw [e1] at e; cases e
  | some i =>
    rw [e1] at e; cases e
    exact (po_some h).run pins s σ H Q I ⟨Γ, G, ρ, _, R, asI_some e1, fun v G' H' s b => ⟨i, b.int, q G' H' s⟩⟩⟩
def cutD (xs : List PyData) (lo hi : Option Int) : List PyData := (xs.drop (HT.sIx xs.length 0 lo)).take (HT.sIx xs.length xs.length hi - HT.sIx xs.length 0 lo)
theorem cut_dp {K : PySem.W.Frag} {G : Hp} {vs : List V} {ds : List PyData} (lo hi : Option Int) (h : DpAll K G vs ds) : DpAll K G (cutV vs lo hi) (cutD ds lo hi) := by
  unfold cutV cutD
  rw [h.length]
  exact (h.drop _).take _
/-- a tuple's slice: a part of it (the whole is the same object: not here) -/
def dSlT (d : PyData) (lo hi : Option Int) : Option PyData := match d with
  | .tuple xs => if ¬ (HT.sIx xs.length 0 lo = 0 ∧ HT.sIx xs.length xs.length hi = xs.length) then some (.tuple (cutD xs lo hi)) else none
  | _ => none
def dSlL (d : PyData) (lo hi : Option Int) : Option (List PyData) := match d with
  | .list xs => some (cutD xs lo hi)
  | _ => none
def slF {α : Type} (g : PyData → Option Int → Option Int → Option α) (F : Fd) (P P' : Dv → Option (Option Int)) : Dv → Option α := fun ρ => (F ρ).bind fun d => (P ρ).bind fun lo => (P' ρ).bind fun hi => g d lo hi
theorem slF_some {α : Type} {g : PyData → Option Int → Option Int → Option α} {P P' : Dv → Option (Option Int)} {ρ : Dv} {y : α} (h : slF g F P P' ρ = some y) : ∃ d lo hi, F ρ = some d ∧ P ρ = some lo ∧ P' ρ = some hi ∧ g d lo hi = some y := by
  unfold slF at h
  cases e1 : F ρ with
  | none => rw [e1] at h; cases h
  | some d =>
    cases e2 : P ρ with
    | none => rw [e1, e2] at h; cases h
    | some lo =>
      cases e3 : P' ρ with
      | none => rw [e1, e2, e3] at h; cases h
      | some hi => rw [e1, e2, e3] at h; exact ⟨d, lo, hi, rfl, rfl, rfl, h⟩
theorem d_slT {lo hi : Option Expr} {p2 : Pos} {P P' : Dv → Option (Option Int)} (ha : PE X a (RB X.K O F)) (hl : PO X lo (RP X.K O P)) (hu : PO X hi (RP X.K O P')) : PE X (.Subscript a (.Slice lo hi none p2) pos) (RD X.K O (slF dSlT F P P')) :=
  pe_imp (pe_slice sl_tup ha hl hu) fun σ H Q ⟨Γ, G, ρ, d, R, ef, q⟩ => by
    obtain ⟨dx, lo, hi, e1, e2, e3, e4⟩ := slF_some ef
    refine ⟨Γ, G, ρ, dx, R, e1, fun x G1 H1 s1 bx => ⟨Γ, G1, ρ, lo, R.stp s1, e2, fun G2 H2 s2 => ⟨Γ, G2, ρ, hi, (R.stp s1).stp s2, e3, fun G3 H3 s3 => ?_⟩⟩⟩
    cases dx <;> simp only [dSlT] at e4 <;> first | (cases e4; done) | skip
    split at e4
    · rename_i hw
      cases e4
      obtain ⟨p, vs, rfl, hp, da⟩ := ((bx.stp s2).stp s3).tup s3.gh
      refine ⟨p, vs, rfl, hp, by rw [da.length]; exact hw, fun p' hp' => ?_⟩
      have sg := Stp.newF (p := p') (o := .tup (cutV vs lo hi)) s3.gh hp'
      exact q _ _ _ (((s1.trans s2).trans s3).trans sg) (.tup (SqT.of upd_same) (dpAll_mono sg.gg _ _ (cut_dp lo hi da)))
    · cases e4
theorem o_slL {lo hi : Option Expr} {p2 : Pos} {P P' : Dv → Option (Option Int)} (ha : PE X a (RB X.K O F)) (hl : PO X lo (RP X.K O P)) (hu : PO X hi (RP X.K O P')) : PE X (.Subscript a (.Slice lo hi none p2) pos) (RO X.K O (slF dSlL F P P')) :=
  pe_imp (pe_slice sl_list ha hl hu) fun σ H Q ⟨Γ, G, ρ, d, R, ef, q⟩ => by
    obtain ⟨dx, lo, hi, e1, e2, e3, e4⟩ := slF_some ef
    refine ⟨Γ, G, ρ, dx, R, e1, fun x G1 H1 s1 bx => ⟨Γ, G1, ρ, lo, R.stp s1, e2, fun G2 H2 s2 => ⟨Γ, G2, ρ, hi, (R.stp s1).stp s2, e3, fun G3 H3 s3 => ?_⟩⟩⟩
    cases dx <;> simp only [dSlL] at e4 <;> first | (cases e4; done) | skip
    cases e4
    obtain ⟨p, vs, rfl, hp, da⟩ := ((bx.stp s2).stp s3).list s3.gh
    refine ⟨p, vs, rfl, hp, fun p' hp' => ?_⟩
    have sg := Stp.new (p := p') (o := .lst (cutV vs lo hi)) s3.gh hp'
    have s4 := (s1.trans s2).trans s3
    exact q _ _ _ _ (s4.trans sg) (s4.hh.free hp') (s3.gh.free hp') upd_same (cut_dp lo hi da)

/-! ### calls of built-ins -/
def rL (K : PySem.W.Frag) (g : List PyData → Option PyData) : List V → Hp → VK → Prop := fun vs H Q => ∃ G ds d, Same G H ∧ BdAll K G H vs ds ∧ g ds = some d ∧ ∀ v G' H', Stp G H G' H' → Dp K G' v d → Q v H'
def rLo (K : PySem.W.Frag) (g : List PyData → Option (List PyData)) : List V → Hp → VK → Prop := fun vs H Q => ∃ G ds es, Same G H ∧ BdAll K G H vs ds ∧ g ds = some es ∧
  ∀ p xs G' H', Stp G H G' H' → H p = none → G' p = none → H' p = some (.lst xs) → DpAll K G' xs es → Q (.ref p) H'
def fL {α : Type} (g : List PyData → Option α) (L : Fl) : Dv → Option α := fun ρ => (L ρ).bind g
theorem fL_some {α : Type} {g : List PyData → Option α} {ρ : Dv} {y : α} (h : fL g L ρ = some y) : ∃ ds, L ρ = some ds ∧ g ds = some y := by
  unfold fL at h
  cases e : L ρ with
  | none => rw [e] at h; cases h
  | some ds => rw [e] at h; exact ⟨ds, rfl, h⟩
variable {e : Expr} {es : List Expr} {x : Str} {p : Pos}
theorem cb_imp {g : List PyData → Option PyData} {σ : L2.St} {H : Hp} {Q : VK} (h : RD X.K O (fL g L) σ H Q) : tCB (rL X.K g) (RAb X.K O L) σ H Q := by
  obtain ⟨Γ, G, ρ, d, R, ef, q⟩ := h
  obtain ⟨ds, e1, e2⟩ := fL_some ef
  exact ⟨Γ, G, ρ, ds, R, e1, fun vs G1 H1 s1 b => ⟨G1, ds, d, s1.gh, b, e2, fun v G' H' s dv => q v G' H' (s1.trans s) dv⟩⟩
theorem cbo_imp {g : List PyData → Option (List PyData)} {σ : L2.St} {H : Hp} {Q : VK} (h : RO X.K O (fL g L) σ H Q) : tCB (rLo X.K g) (RAb X.K O L) σ H Q := by
  obtain ⟨Γ, G, ρ, ys, R, ef, q⟩ := h
  obtain ⟨ds, e1, e2⟩ := fL_some ef
  exact ⟨Γ, G, ρ, ds, R, e1, fun vs G1 H1 s1 b => ⟨G1, ds, ys, s1.gh, b, e2, fun p xs G' H' s n g hp da => q p xs G' H' (s1.trans s) (s1.hh.free n) g hp da⟩⟩
theorem d_callB {id : String} {g : List PyData → Option PyData} (hc : CallR X (.builtin id) (rL X.K g)) (hg : Gl X x) (hm : X.mg x = none) (hv : bootBuiltins x = some (.builtin id)) (ha : PA X (e :: es) (RAb X.K O L)) (hn : x ≠ "__name__" := by decide) (hdb : (x == ("__debug__" : Str)) = false := by decide)
    (he : starEach (e :: es) X.env = (false, eval e X.env) :: starEach es X.env := by rfl) (hpl : (backTo pos (starEach es X.env)).any (·.1) = false := by rfl) : PE X (.Call (.Name x p) (e :: es) [] pos) (RD X.K O (fL g L)) :=
  pe_imp (pe_callB hc hg hm hv ha hn hdb he hpl) fun σ H Q h => cb_imp h
theorem d_callT {T : String} {g : List PyData → Option PyData} (hc : CallR X (.type T) (rL X.K g)) (hg : Gl X x) (hm : X.mg x = none) (hv : bootBuiltins x = some (.type T)) (ha : PA X (e :: es) (RAb X.K O L)) (hn : x ≠ "__name__" := by decide) (hdb : (x == ("__debug__" : Str)) = false := by decide)
    (he : starEach (e :: es) X.env = (false, eval e X.env) :: starEach es X.env := by rfl) (hpl : (backTo pos (starEach es X.env)).any (·.1) = false := by rfl) : PE X (.Call (.Name x p) (e :: es) [] pos) (RD X.K O (fL g L)) :=
  pe_imp (pe_callTy hc hg hm hv ha hn hdb he hpl) fun σ H Q h => cb_imp h
theorem o_callB {id : String} {g : List PyData → Option (List PyData)} (hc : CallR X (.builtin id) (rLo X.K g)) (hg : Gl X x) (hm : X.mg x = none) (hv : bootBuiltins x = some (.builtin id)) (ha : PA X (e :: es) (RAb X.K O L)) (hn : x ≠ "__name__" := by decide) (hdb : (x == ("__debug__" : Str)) = false := by decide)
    (he : starEach (e :: es) X.env = (false, eval e X.env) :: starEach es X.env := by rfl) (hpl : (backTo pos (starEach es X.env)).any (·.1) = false := by rfl) : PE X (.Call (.Name x p) (e :: es) [] pos) (RO X.K O (fL g L)) :=
  pe_imp (pe_callB hc hg hm hv ha hn hdb he hpl) fun σ H Q h => cbo_imp h
theorem o_callT {T : String} {g : List PyData → Option (List PyData)} (hc : CallR X (.type T) (rLo X.K g)) (hg : Gl X x) (hm : X.mg x = none) (hv : bootBuiltins x = some (.type T)) (ha : PA X (e :: es) (RAb X.K O L)) (hn : x ≠ "__name__" := by decide) (hdb : (x == ("__debug__" : Str)) = false := by decide)
    (he : starEach (e :: es) X.env = (false, eval e X.env) :: starEach es X.env := by rfl) (hpl : (backTo pos (starEach es X.env)).any (·.1) = false := by rfl) : PE X (.Call (.Name x p) (e :: es) [] pos) (RO X.K O (fL g L)) :=
  pe_imp (pe_callTy hc hg hm hv ha hn hdb he hpl) fun σ H Q h => cbo_imp h
theorem BdAll.one {K : PySem.W.Frag} {G H : Hp} {vs : List V} {d : PyData} (h : BdAll K G H vs [d]) : ∃ v, vs = [v] ∧ Bd K G H v d := by
  cases h with | cons a t => cases t; exact ⟨_, rfl, a⟩
theorem BdAll.two {K : PySem.W.Frag} {G H : Hp} {vs : List V} {d d' : PyData} (h : BdAll K G H vs [d, d']) : ∃ v v', vs = [v, v'] ∧ Bd K G H v d ∧ Bd K G H v' d' := by
  cases h with | cons a t => cases t with | cons b t => cases t; exact ⟨_, _, rfl, a, b⟩
/-- the whole numbers that the data are -/
def intsD : List PyData → Option (List Int)
  | [] => some []
  | .int i :: r => (intsD r).map (i :: ·)
  | _ :: _ => none
theorem intsD_dp {K : PySem.W.Frag} {G : Hp} : ∀ {ds : List PyData} {ns : List Int} {vs : List V}, intsD ds = some ns → DpAll K G vs ds → vs = ns.map V.int
  | [], _, _, e, h => by cases e; cases h; rfl
  | d :: r, ns, _, e, h => by
    cases h with
    | cons a t =>
      cases d with
      | int i =>
        simp only [intsD] at e
        cases q : intsD r with
        | none => rw [q] at e; cases e
        | some ms =>
          rw [q] at e; cases e
          cases a
          rw [intsD_dp q t]; rfl
      | none => cases e
      | bool _ => cases e
      | str _ => cases e
      | list _ => cases e
      | tuple _ => cases e
      | dict _ => cases e
def dLen : List PyData → Option PyData
  | [.list xs] => some (.int xs.length)
  | [.tuple xs] => some (.int xs.length)
  | _ => none
theorem c_len : CallR X (.builtin "len") (rL X.K dLen) := by
  intro pins s σ H vs us Q I r ⟨G, ds, d, gh, b, eg, q⟩
  have two : (∃ xs, ds = [.list xs] ∧ d = .int xs.length) ∨ (∃ xs, ds = [.tuple xs] ∧ d = .int xs.length) := by
    unfold dLen at eg
    split at eg
    · cases eg; exact .inl ⟨_, rfl, rfl⟩
    · cases eg; exact .inr ⟨_, rfl, rfl⟩
    · cases eg
  rcases two with ⟨xs, rfl, rfl⟩ | ⟨xs, rfl, rfl⟩
  · obtain ⟨v, rfl, bv⟩ := b.one
    obtain ⟨p, ws, rfl, hp, da⟩ := bv.list gh
    exact call_len_seq pins s σ H _ us Q I r ⟨p, ws, rfl, .inl hp, q _ G H (Stp.refl gh) (by rw [da.length]; exact .int _)⟩
  · obtain ⟨v, rfl, bv⟩ := b.one
    obtain ⟨p, ws, rfl, hp, da⟩ := bv.tup gh
    exact call_len_seq pins s σ H _ us Q I r ⟨p, ws, rfl, .inr hp, q _ G H (Stp.refl gh) (by rw [da.length]; exact .int _)⟩
def dSum : List PyData → Option PyData
  | [.list xs] => (intsD xs).map fun ns => .int ns.sum
  | _ => none
theorem c_sum (hc : X.calm = true) : CallR X (.builtin "sum") (rL X.K dSum) := by
  intro pins s σ H vs us Q I r ⟨G, ds, d, gh, b, eg, q⟩
  unfold dSum at eg
  split at eg
  · rename_i xs
    cases e1 : intsD xs with
    | none => rw [e1] at eg; cases eg
    | some ns =>
      rw [e1] at eg; cases eg
      obtain ⟨v, rfl, bv⟩ := b.one
      obtain ⟨p, ws, rfl, hp, da⟩ := bv.list gh
      have ew := intsD_dp e1 da
      subst ew
      exact cr_sum hc pins s σ H _ us Q I r ⟨p, ns, rfl, hp, q _ G H (Stp.refl gh) (.int _)⟩
  · cases eg
def dMax : List PyData → Option PyData
  | [.list xs] => (intsD xs).bind fun ns => ns.max?.map .int
  | [.int i, .int j] => some (.int (if j > i then j else i))
  | _ => none
def dMin : List PyData → Option PyData
  | [.list xs] => (intsD xs).bind fun ns => ns.min?.map .int
  | [.int i, .int j] => some (.int (if j < i then j else i))
  | _ => none
theorem max_is {ns : List Int} {m m' : Int} (h : ns.max? = some m) (h1 : m' ∈ ns) (h2 : ∀ y, y ∈ ns → y ≤ m') : m' = m := by
  have e := (List.max?_eq_some_iff (α := Int)).mp h
  exact Int.le_antisymm (e.2 _ h1) (h2 _ e.1)
theorem min_is {ns : List Int} {m m' : Int} (h : ns.min? = some m) (h1 : m' ∈ ns) (h2 : ∀ y, y ∈ ns → m' ≤ y) : m' = m := by
  have e := (List.min?_eq_some_iff (α := Int)).mp h
  exact Int.le_antisymm (h2 _ e.1) (e.2 _ h1)
theorem c_max (hc : X.calm = true) : CallR X (.builtin "max") (rL X.K dMax) := by
  intro pins s σ H vs us Q I r ⟨G, ds, d, gh, b, eg, q⟩
  unfold dMax at eg
  split at eg
  · rename_i xs
    cases e1 : intsD xs with
    | none => rw [e1] at eg; cases eg
    | some ns =>
      rw [e1] at eg
      cases e2 : ns.max? with
      | none => rw [Option.bind_some, e2] at eg; cases eg
      | some m =>
        rw [Option.bind_some, e2] at eg; cases eg
        obtain ⟨v, rfl, bv⟩ := b.one
        obtain ⟨p, ws, rfl, hp, da⟩ := bv.list gh
        have ew := intsD_dp e1 da
        subst ew
        refine cr_max hc pins s σ H _ us Q I r ⟨p, ns, rfl, hp, ?_, fun m' h1 h2 => ?_⟩
        · cases ns with
          | nil => cases e2
          | cons _ _ => exact Nat.succ_pos _
        · rw [max_is e2 h1 h2]; exact q _ G H (Stp.refl gh) (.int _)
  · cases eg
    obtain ⟨v, v', rfl, b1, b2⟩ := b.two
    exact call_max2 hc pins s σ H _ us Q I r ⟨_, _, by rw [b1.int, b2.int], q _ G H (Stp.refl gh) (.int _)⟩
  · cases eg
theorem c_min (hc : X.calm = true) : CallR X (.builtin "min") (rL X.K dMin) := by
  intro pins s σ H vs us Q I r ⟨G, ds, d, gh, b, eg, q⟩
  unfold dMin at eg
  split at eg
  · rename_i xs
    cases e1 : intsD xs with
    | none => rw [e1] at eg; cases eg
    | some ns =>
      rw [e1] at eg
      cases e2 : ns.min? with
      | none => rw [Option.bind_some, e2] at eg; cases eg
      | some m =>
        rw [Option.bind_some, e2] at eg; cases eg
        obtain ⟨v, rfl, bv⟩ := b.one
        obtain ⟨p, ws, rfl, hp, da⟩ := bv.list gh
        have ew := intsD_dp e1 da
        subst ew
        refine cr_min hc pins s σ H _ us Q I r ⟨p, ns, rfl, hp, ?_, fun m' h1 h2 => ?_⟩
        · cases ns with
          | nil => cases e2
          | cons _ _ => exact Nat.succ_pos _
        · rw [min_is e2 h1 h2]; exact q _ G H (Stp.refl gh) (.int _)
  · cases eg
    obtain ⟨v, v', rfl, b1, b2⟩ := b.two
    exact call_min2 hc pins s σ H _ us Q I r ⟨_, _, by rw [b1.int, b2.int], q _ G H (Stp.refl gh) (.int _)⟩
  · cases eg
def boolsD : List PyData → Option (List Bool)
  | [] => some []
  | .bool i :: r => (boolsD r).map (i :: ·)
  | _ :: _ => none
theorem boolsD_dp {K : PySem.W.Frag} {G : Hp} : ∀ {ds : List PyData} {ns : List Bool} {vs : List V}, boolsD ds = some ns → DpAll K G vs ds → vs = ns.map V.bl
  | [], _, _, e, h => by cases e; cases h; rfl
  | d :: r, ns, _, e, h => by
    cases h with
    | cons a t =>
      cases d with
      | bool i =>
        simp only [boolsD] at e
        cases q : boolsD r with
        | none => rw [q] at e; cases e
        | some ms =>
          rw [q] at e; cases e
          cases a
          rw [boolsD_dp q t]; rfl
      | none => cases e
      | int _ => cases e
      | str _ => cases e
      | list _ => cases e
      | tuple _ => cases e
      | dict _ => cases e
def dAll : List PyData → Option PyData
  | [.list xs] => (boolsD xs).map fun ns => .bool (ns.all id)
  | _ => none
theorem c_all (hc : X.calm = true) : CallR X (.builtin "all") (rL X.K dAll) := by
  intro pins s σ H vs us Q I r ⟨G, ds, d, gh, b, eg, q⟩
  unfold dAll at eg
  split at eg
  · rename_i xs
    cases e1 : boolsD xs with
    | none => rw [e1] at eg; cases eg
    | some ns =>
      rw [e1] at eg; cases eg
      obtain ⟨v, rfl, bv⟩ := b.one
      obtain ⟨p, ws, rfl, hp, da⟩ := bv.list gh
      have ew := boolsD_dp e1 da
      subst ew
      exact cr_all hc pins s σ H _ us Q I r ⟨p, ns, rfl, hp, q _ G H (Stp.refl gh) (.bl _)⟩
  · cases eg
/-- list(x) -/
def dList : List PyData → Option (List PyData)
  | [.list xs] => some xs
  | [.tuple xs] => some xs
  | _ => none
theorem c_list : CallR X (.type "list") (rLo X.K dList) := by
  intro pins s σ H vs us Q I r ⟨G, ds, d, gh, b, eg, q⟩
  have two : (∃ xs, ds = [.list xs] ∧ d = xs) ∨ (∃ xs, ds = [.tuple xs] ∧ d = xs) := by
    unfold dList at eg
    split at eg
    · cases eg; exact .inl ⟨_, rfl, rfl⟩
    · cases eg; exact .inr ⟨_, rfl, rfl⟩
    · cases eg
  rcases two with ⟨xs, rfl, rfl⟩ | ⟨xs, rfl, rfl⟩
  · obtain ⟨v, rfl, bv⟩ := b.one
    obtain ⟨p, ws, rfl, hp, da⟩ := bv.list gh
    exact call_list_of pins s σ H _ us Q I r ⟨p, ws, rfl, .inl hp, fun l hl => q l _ G _ (Stp.new gh hl) hl (gh.free hl) upd_same da⟩
  · obtain ⟨v, rfl, bv⟩ := b.one
    obtain ⟨p, ws, rfl, hp, da⟩ := bv.tup gh
    exact call_list_of pins s σ H _ us Q I r ⟨p, ws, rfl, .inr hp, fun l hl => q l _ G _ (Stp.new gh hl) hl (gh.free hl) upd_same da⟩
def dTuple : List PyData → Option PyData
  | [.list xs] => some (.tuple xs)
  | [.tuple xs] => some (.tuple xs)
  | _ => none
theorem c_tuple : CallR X (.type "tuple") (rL X.K dTuple) := by
  intro pins s σ H vs us Q I r ⟨G, ds, d, gh, b, eg, q⟩
  have two : (∃ xs, ds = [.list xs] ∧ d = .tuple xs) ∨ (∃ xs, ds = [.tuple xs] ∧ d = .tuple xs) := by
    unfold dTuple at eg
    split at eg
    · cases eg; exact .inl ⟨_, rfl, rfl⟩
    · cases eg; exact .inr ⟨_, rfl, rfl⟩
    · cases eg
  rcases two with ⟨xs, rfl, rfl⟩ | ⟨xs, rfl, rfl⟩
  · obtain ⟨v, rfl, bv⟩ := b.one
    obtain ⟨p, ws, rfl, hp, da⟩ := bv.list gh
    refine call_tuple_of pins s σ H _ us Q I r ⟨p, ws, rfl, .inl ⟨hp, fun l hl => ?_⟩⟩
    have sg := Stp.newF (p := l) (o := .tup ws) gh hl
    exact q _ _ _ sg (.tup (SqT.of upd_same) (dpAll_mono sg.gg _ _ da))
  · obtain ⟨v, rfl, bv⟩ := b.one
    obtain ⟨p, ws, rfl, hp, da⟩ := bv.tup gh
    have dx : Dp X.K G (.ref p) (.tuple xs) := by
      rcases bv with b' | ⟨_, _, _, _, z, _⟩
      · exact b'
      · cases z
    exact call_tuple_of pins s σ H _ us Q I r ⟨p, ws, rfl, .inr ⟨hp, q _ G H (Stp.refl gh) dx⟩⟩
def dInt : List PyData → Option PyData
  | [.int i] => some (.int i)
  | [.bool b] => some (.int (if b then 1 else 0))
  | _ => none
theorem c_int : CallR X (.type "int") (rL X.K dInt) := by
  intro pins s σ H vs us Q I r ⟨G, ds, d, gh, b, eg, q⟩
  unfold dInt at eg
  split at eg
  · cases eg
    obtain ⟨v, rfl, bv⟩ := b.one
    exact call_int1 pins s σ H _ us Q I r (.inl ⟨_, by rw [bv.int], q _ G H (Stp.refl gh) (.int _)⟩)
  · cases eg
    obtain ⟨v, rfl, bv⟩ := b.one
    exact call_int1 pins s σ H _ us Q I r (.inr ⟨_, by rw [bv.bool], q _ G H (Stp.refl gh) (.int _)⟩)
  · cases eg
def dAbs : List PyData → Option PyData
  | [.int i] => some (.int (if i < 0 then -i else i))
  | _ => none
theorem c_abs : CallR X (.builtin "abs") (rL X.K dAbs) := by
  intro pins s σ H vs us Q I r ⟨G, ds, d, gh, b, eg, q⟩
  unfold dAbs at eg
  split at eg
  · cases eg
    obtain ⟨v, rfl, bv⟩ := b.one
    exact call_abs pins s σ H _ us Q I r ⟨_, by rw [bv.int], q _ G H (Stp.refl gh) (.int _)⟩
  · cases eg
/-- sorted(x) of alike data -/
def sortOk (xs : List PyData) : Bool := (xs.all fun x => xs.all fun y => PySem.W.alike x y) && ((xs.all fun x => match x with | .tuple (_ :: _) => true | _ => false) || xs.all fun x => match x with | .int _ => true | _ => false) && xs.all shal
def dSorted : List PyData → Option (List PyData)
  | [.list xs] => if sortOk xs then some (xs.mergeSort (PySem.W.dataLe false id)) else none
  | _ => none
theorem each_dp {K : PySem.W.Frag} {X : Cx} {pins : List (Addr × Obj)} {σ : L2.St} {H G : Hp} {s : Shared} (hK : X.K = K) (I : Inv X pins σ H s) (gh : Same G H) : ∀ {ds : List PyData} {vs : List V} {us : List Value}, DpAll K G vs ds → Vals vs us →
    PySem.W.EachIs (fun u d => ∃ v, RelV v u ∧ Dp K G v d ∧ ∃ as, Reads s.heap u d as) us ds
  | _, _, _, .nil, .nil => .nil
  | _, _, _, .cons a t, .cons r rr => by
    subst hK
    exact .cons ⟨_, r, a, Dp.reads I _ _ _ (dp_mono gh _ _ a) r⟩ (each_dp rfl I gh t rr)
theorem each_back {K : PySem.W.Frag} {G : Hp} {P : Value → PyData → Prop} : ∀ {ds : List PyData} {us : List Value}, PySem.W.EachIs (fun u d => ∃ v, RelV v u ∧ Dp K G v d ∧ P u d) us ds → ∃ vs, Vals vs us ∧ DpAll K G vs ds
  | _, _, .nil => ⟨[], .nil, .nil⟩
  | _, _, .cons ⟨v, r, d, _⟩ t => by
    obtain ⟨vs, h1, h2⟩ := each_back t
    exact ⟨v :: vs, .cons r h1, .cons d h2⟩
theorem sortOk_of {xs : List PyData} (h : sortOk xs = true) : PySem.W.AllAlike xs ∧ PySem.W.Sortable xs ∧ ∀ x, x ∈ xs → x.depth ≤ 100 := by
  unfold sortOk at h
  simp only [Bool.and_eq_true, Bool.or_eq_true, List.all_eq_true] at h
  obtain ⟨⟨h1, h2⟩, h3⟩ := h
  refine ⟨fun d hd d' hd' => h1 d hd d' hd', ?_, fun x hx => of_decide_eq_true (h3 x hx)⟩
  rcases h2 with h2 | h2
  · refine .inl fun d hd => ?_
    have := h2 d hd
    split at this
    · exact ⟨_, _, rfl⟩
    · cases this
  · refine .inr fun d hd => ?_
    have := h2 d hd
    split at this
    · exact ⟨(fun z => by cases z), (fun _ z => by cases z)⟩
    · cases this
theorem c_sorted (hu : X.A.units + 200 < cLine) : CallR X (.builtin "sorted") (rLo X.K dSorted) := by
  intro pins s σ H vs us Q I r ⟨G, ds, d, gh, b, eg, q⟩
  unfold dSorted at eg
  split at eg
  · rename_i xs
    split at eg
    · rename_i hok
      cases eg
      obtain ⟨v, rfl, bv⟩ := b.one
      obtain ⟨p, ws, rfl, hp, da⟩ := bv.list gh
      rw [Vals.ref1 r]
      obtain ⟨its, rv, pl, hz⟩ := I.list hp
      obtain ⟨k1, k2, k3⟩ := sortOk_of hok
      have e := each_dp rfl I gh da rv
      have hl : xs.length = ws.length := da.length.symm
      refine PySem.W.sorted_data (bs := xs) (enc := id) pl.isList e (e.mono fun _ _ ⟨_, _, _, z⟩ => z) (by rw [List.map_id]; exact k1) (by rw [List.map_id]; exact k2) (by rw [hl]; exact hz) (fun x hx => ?_) fun out hlen eo => ?_
      · have h1 := k3 x hx
        show X.A.units + 2 + (id x).depth < cLine
        simp only [id]
        omega
      · obtain ⟨vs', r1, d1⟩ := each_back eo
        obtain ⟨ep, he'⟩ := PyProof.Rows.sortedAll_at s.heap its (List.toArray out)
        have hfree : H (s.heap.objs.size + 1) = none := I.hok.fresh (Nat.le_succ _)
        have hl2 : vs'.length ≤ sizeLine := by rw [r1.length, hlen, hl]; exact hz
        exact ⟨.ref _, upd H (s.heap.objs.size + 1) (.lst vs'), I.laid (t' := s.toks) (fun _ _ => PyProof.Rows.sortedAll_old) (Nat.le_succ _) ⟨hl2, out, ep, r1, he'⟩, rfl, q _ _ G _ (Stp.new gh hfree) hfree (gh.free hfree) upd_same d1⟩
    · cases eg
  · cases eg

/-! ### isinstance of data -/
def dIsi (f : PyData → Bool) : PyData → Option PyData := fun d => some (.bool (f d))
def IsiOf (T : String) (f : PyData → Bool) : Prop := ∀ {prog : Program} {w : World} {A : Around} {E : Value → Shared → Prop} {s : Shared} {v : Value} {d : PyData} {as : List Addr} {Q : Value → Shared → Prop}, Reads s.heap v d as →
  (∀ tk, s.toks ≤ tk → Q (.bool (f d)) { s with toks := tk }) → wpAny (model prog w) A (call (.builtin "isinstance") [v, .type T]) Q E s
theorem isi_int : IsiOf "int" PyData.isInt := PySem.W.isinstance_int_data
theorem isi_bool : IsiOf "bool" PyData.isBool := PySem.W.isinstance_bool_data
theorem isi_str : IsiOf "str" PyData.isStr := PySem.W.isinstance_str_data
theorem isi_list : IsiOf "list" PyData.isList := PySem.W.isinstance_list_data
theorem isi_tuple : IsiOf "tuple" PyData.isTuple := PySem.W.isinstance_tuple_data
theorem isi_dict : IsiOf "dict" PyData.isDict := PySem.W.isinstance_dict_data
theorem d_isi {T : String} {f : PyData → Bool} {y : Str} {q p' : Pos} (hf : IsiOf T f) (hg : Gl X "isinstance") (hm : X.mg "isinstance" = none) (hgT : Gl X y) (hmT : X.mg y = none) (hvT : bootBuiltins y = some (.type T)) (ha : PE X e (RB X.K O F))
    (hn : y ≠ "__name__" := by decide) (hd : (y == ("__debug__" : Str)) = false := by decide)
    (hs : starEach [e, .Name y q] X.env = (false, eval e X.env) :: starEach [.Name y q] X.env := by rfl) (hs2 : starEach [.Name y q] X.env = (false, eval (.Name y q) X.env) :: starEach [] X.env := by rfl) (hpl : (backTo pos (starEach [.Name y q] X.env)).any (·.1) = false := by rfl)
    (hv : bootBuiltins "isinstance" = some (.builtin "isinstance") := by decide +kernel) :
    PE X (.Call (.Name "isinstance" p') [e, .Name y q] [] pos) (RD X.K O (f1 (dIsi f) F)) := by
  have hc : CallR X (.builtin "isinstance") (fun vs H Q => ∃ G v d, Same G H ∧ vs = [v, .ty T] ∧ Bd X.K G H v d ∧ Q (.bl (f d)) H) := by
    intro pins s σ H vs us Q I r ⟨G, v, d, gh, ev, b, q⟩
    subst ev
    obtain ⟨u1, u2, rfl, r1, r2⟩ := vals2 r
    cases (show u2 = Value.type T from r2)
    obtain ⟨as, rd⟩ := Dp.reads I d v u1 (b.dp gh) r1
    exact hf rd fun tk _ => ⟨.bl (f d), H, I.tok tk, rfl, q⟩
  refine pe_imp (pe_callB hc hg hm hv (pa_cons ha (pa_cons (pe_bltn (v := .ty T) hgT hmT hvT rfl hn hd) pa_nil hs2) hs) (by decide) (by decide) hs hpl) fun σ H Q ⟨Γ, G, ρ, d, R, ef, q⟩ => ?_
  unfold f1 at ef
  cases e1 : F ρ with
  | none => rw [e1] at ef; cases ef
  | some dx =>
    rw [e1] at ef; cases ef
    exact ⟨Γ, G, ρ, dx, R, e1, fun v G1 H1 s1 bv => ⟨G1, v, dx, s1.gh, rfl, bv, q _ G1 H1 s1 (.bl _)⟩⟩
end
end Dat
open PySem PySem.Spec PyProof.Rows L2
namespace Dat

/-! ### what is walked -/
structure ItD (K : PySem.W.Frag) (J : It) (ds : List PyData) (G : Hp) : Prop where
  go : ∀ i G1 H1, Same G G1 → Same G1 H1 → i < ds.length → J.go i H1
  yl : ∀ i G1 H1 x H2, Same G G1 → Same G1 H1 → i < ds.length → J.yld i H1 x H2 → ∃ G2 d, Stp G1 H1 G2 H2 ∧ ds[i]? = some d ∧ Dp K G2 x d
  st : ∀ G1 H1, Same G G1 → Same G1 H1 → J.stop ds.length H1
def RI (K : PySem.W.Frag) (O : Os) (Fs : Fl) : TI := fun σ H R => ∃ Γ G ρ ds, Rep K Γ G H O σ ρ ∧ Fs ρ = some ds ∧ ∀ J G' H', Stp G H G' H' → ItD K J ds G' → ds.length ≤ sizeLine → R J H'
section
variable {X : Cx} {e tg : Expr} {pos : Pos} {O : Os} {F : Fd} {L : Fl}
theorem pi_imp {t t' : TI} (h : PI X tg e t) (w : ∀ σ H R, t' σ H R → t σ H R) : PI X tg e t' := ⟨fun pins s σ H R I q => h.run pins s σ H R I (w _ _ _ q)⟩
/-- a value's size, known of the heap -/
def SzOk (K : PySem.W.Frag) (v : V) (H : Hp) : Prop := ∀ a xs, v = .ref a → SqL K H a xs ∨ SqT K H a xs → xs.length ≤ sizeLine
def tSz (K : PySem.W.Frag) (t : TE) : TE := fun σ H Q => t σ H fun v H' => SzOk K v H' → Q v H'
theorem pe_sz {t : TE} (h : PE X e t) : PE X e (tSz X.K t) := ⟨fun pins s σ H Q I q => thn (h.run pins s σ H _ I q) fun u s1 ⟨v, H1, I1, r, k⟩ => ⟨v, H1, I1, r, k fun a xs ev hq => by
  rcases hq with hq | hq
  · obtain ⟨_, _, _, z⟩ := I1.list hq; exact z
  · obtain ⟨_, _, _, z⟩ := I1.tuple hq; exact z⟩⟩
/-- the items of a list or a tuple -/
def seqF (F : Fd) : Fl := fun ρ => (F ρ).bind fun d => match d with | .list xs => some xs | _ => none
def seqT (F : Fd) : Fl := fun ρ => (F ρ).bind fun d => match d with | .tuple xs => some xs | _ => none
theorem seqF_some {ρ : Dv} {ds : List PyData} (h : seqF F ρ = some ds) : F ρ = some (.list ds) := by
  unfold seqF at h
  cases e1 : F ρ with
  | none => rw [e1] at h; cases h
  | some d => rw [e1] at h; cases d <;> first | (cases h; rfl) | (cases h; done)
theorem seqT_some {ρ : Dv} {ds : List PyData} (h : seqT F ρ = some ds) : F ρ = some (.tuple ds) := by
  unfold seqT at h
  cases e1 : F ρ with
  | none => rw [e1] at h; cases h
  | some d => rw [e1] at h; cases d <;> first | (cases h; rfl) | (cases h; done)
theorem itd_list {K : PySem.W.Frag} {a : Addr} {xs : List V} {ds : List PyData} {G : Hp} (hq : SqL K G a xs) (da : DpAll K G xs ds) : ItD K (Itl K a) ds G := by
  refine ⟨fun i G1 H1 s1 s2 hi => ?_, fun i G1 H1 x H2 s1 s2 hi ⟨eh, y⟩ => ?_, fun G1 H1 s1 s2 => ⟨xs, s2.seq (s1.seq hq), by rw [da.length]; exact Nat.le_refl _⟩⟩
  · have hl : i < xs.length := by rw [da.length]; exact hi
    exact ⟨xs, xs[i], s2.seq (s1.seq hq), List.getElem?_eq_getElem hl⟩
  · subst eh
    obtain ⟨d, hd, hv⟩ := da.getV (y xs (s2.seq (s1.seq hq)))
    exact ⟨G1, d, Stp.refl s2, hd, dp_mono s1 _ _ hv⟩
theorem itd_tup {K : PySem.W.Frag} {a : Addr} {xs : List V} {ds : List PyData} {G : Hp} (hq : SqT K G a xs) (da : DpAll K G xs ds) : ItD K (Itt K a) ds G := by
  refine ⟨fun i G1 H1 s1 s2 hi => ?_, fun i G1 H1 x H2 s1 s2 hi ⟨eh, y⟩ => ?_, fun G1 H1 s1 s2 => ⟨xs, seqT_same s2 (seqT_same s1 hq), by rw [da.length]; exact Nat.le_refl _⟩⟩
  · have hl : i < xs.length := by rw [da.length]; exact hi
    exact ⟨xs, xs[i], seqT_same s2 (seqT_same s1 hq), List.getElem?_eq_getElem hl⟩
  · subst eh
    obtain ⟨d, hd, hv⟩ := da.getV (y xs (seqT_same s2 (seqT_same s1 hq)))
    exact ⟨G1, d, Stp.refl s2, hd, dp_mono s1 _ _ hv⟩
theorem i_list (h : PE X e (RD X.K O F)) : PI X tg e (RI X.K O (seqF F)) := pi_imp (pi_list (pe_sz h)) fun σ H R' ⟨Γ, G, ρ, ds, R, ef, q⟩ => by
  refine ⟨Γ, G, ρ, _, R, seqF_some ef, fun v G1 H1 s1 dv sz => ?_⟩
  cases dv with
  | lst hq da => exact ⟨_, rfl, ⟨_, s1.gh.seq hq⟩, q _ G1 H1 s1 (itd_list hq da) (by rw [← da.length]; exact sz _ _ rfl (.inl (s1.gh.seq hq)))⟩
theorem i_tup (h : PE X e (RD X.K O F)) : PI X tg e (RI X.K O (seqT F)) := pi_imp (pi_tup (pe_sz h)) fun σ H R' ⟨Γ, G, ρ, ds, R, ef, q⟩ => by
  refine ⟨Γ, G, ρ, _, R, seqT_some ef, fun v G1 H1 s1 dv sz => ?_⟩
  cases dv with
  | tup hq da => exact ⟨_, rfl, ⟨_, seqT_same s1.gh hq⟩, q _ G1 H1 s1 (itd_tup hq da) (by rw [← da.length]; exact sz _ _ rfl (.inr (seqT_same s1.gh hq)))⟩
/-- lo, lo + 1, .. (n of them) -/
def upFrom (lo : Int) (n : Nat) : List PyData := (List.range n).map fun k => .int (lo + (k : Nat))
theorem upFrom_length (lo : Int) (n : Nat) : (upFrom lo n).length = n := by simp [upFrom]
theorem upFrom_get {lo : Int} {n i : Nat} (h : i < n) : (upFrom lo n)[i]? = some (.int (lo + i)) := by simp [upFrom, h]
theorem itd_range {K : PySem.W.Frag} {lo : Int} {n : Nat} {G : Hp} : ItD K (Itr lo n) (upFrom lo n) G := by
  refine ⟨fun i G1 H1 s1 s2 hi => by rw [upFrom_length] at hi; exact hi, fun i G1 H1 x H2 s1 s2 hi ⟨eh, y⟩ => ?_, fun G1 H1 s1 s2 => by rw [upFrom_length]; exact Nat.le_refl _⟩
  subst eh y
  rw [upFrom_length] at hi
  exact ⟨G1, _, Stp.refl s2, upFrom_get hi, .int _⟩
def dRange : List PyData → Option (List PyData)
  | [.int j] => if j ≤ 16777216 ∧ -16777216 ≤ j then some (upFrom 0 j.toNat) else none
  | [.int i, .int j] => if j ≤ 16777216 ∧ -16777216 ≤ i ∧ i ≤ 16777216 ∧ -16777216 ≤ j ∧ j - i ≤ 16777216 then some (upFrom i (j - i).toNat) else none
  | _ => none
def exN (n : Nat) (L : Fl) : Fl := fun ρ => (L ρ).bind fun ds => if ds.length = n then some ds else none
theorem i_range1 {a : Expr} {p : Pos} (hg : Gl X "range") (hm : X.mg "range" = none) (ha : PA X [a] (RAb X.K O L)) (hs : starEach [a] X.env = [(false, eval a X.env)] := by rfl) : PI X tg (.Call (.Name "range" p) [a] [] pos) (RI X.K O (fL dRange (exN 1 L))) :=
  pi_imp (pi_range1 hg hm ha hs) fun σ H R' ⟨Γ, G, ρ, ds, R, ef, q⟩ => by
    obtain ⟨as, e1, e2⟩ := fL_some ef
    unfold exN at e1
    cases e3 : L ρ with
    | none => rw [e3] at e1; cases e1
    | some bs =>
      rw [e3] at e1
      have e1' : (if bs.length = 1 then some bs else none) = some as := e1
      split at e1'
      · rename_i h1
        cases e1'
        refine ⟨Γ, G, ρ, as, R, e3, fun vs G1 H1 s1 b => ?_⟩
        unfold dRange at e2
        split at e2
        · split at e2
          · rename_i hj
            cases e2
            obtain ⟨v, rfl, bv⟩ := b.one
            exact ⟨_, by rw [bv.int], by omega, by omega, q _ G1 H1 s1 itd_range (by rw [upFrom_length, line_eq]; omega)⟩
          · cases e2
        · cases h1
        · cases e2
      · cases e1'
theorem i_range2 {a b : Expr} {p : Pos} (hg : Gl X "range") (hm : X.mg "range" = none) (ha : PA X [a, b] (RAb X.K O L)) (hs : starEach [a, b] X.env = [(false, eval a X.env), (false, eval b X.env)] := by rfl) (hs2 : starEach [b] X.env = [(false, eval b X.env)] := by rfl) :
    PI X tg (.Call (.Name "range" p) [a, b] [] pos) (RI X.K O (fL dRange (exN 2 L))) :=
  pi_imp (pi_range2 hg hm ha hs hs2) fun σ H R' ⟨Γ, G, ρ, ds, R, ef, q⟩ => by
    obtain ⟨as, e1, e2⟩ := fL_some ef
    unfold exN at e1
    cases e3 : L ρ with
    | none => rw [e3] at e1; cases e1
    | some bs =>
      rw [e3] at e1
      have e1' : (if bs.length = 2 then some bs else none) = some as := e1
      split at e1'
      · rename_i h1
        cases e1'
        refine ⟨Γ, G, ρ, as, R, e3, fun vs G1 H1 s1 b => ?_⟩
        unfold dRange at e2
        split at e2
        · cases h1
        · split at e2
          · rename_i hj
            cases e2
            obtain ⟨v, v', rfl, b1, b2⟩ := b.two
            exact ⟨_, _, by rw [b1.int, b2.int], by omega, q _ G1 H1 s1 itd_range (by rw [upFrom_length, line_eq]; omega)⟩
          · cases e2
        · cases e2
      · cases e1'
/-- (0, x0), (1, x1), .. -/
def numbered (ds : List PyData) : List PyData := ds.mapIdx fun i d => .tuple [.int (i : Nat), d]
theorem itd_enum {K : PySem.W.Frag} {a : Addr} {xs : List V} {ds : List PyData} {G : Hp} (hq : SqL K G a xs) (da : DpAll K G xs ds) : ItD K (Ite K a) (numbered ds) G := by
  have hn : (numbered ds).length = ds.length := by simp [numbered]
  refine ⟨fun i G1 H1 s1 s2 hi => ?_, fun i G1 H1 x H2 s1 s2 hi ⟨T, z, ex, hT, eH, y⟩ => ?_, fun G1 H1 s1 s2 => ⟨xs, s2.seq (s1.seq hq), by rw [hn, da.length]; exact Nat.le_refl _⟩⟩
  · have hl : i < xs.length := by rw [da.length]; omega
    exact ⟨xs, xs[i], s2.seq (s1.seq hq), List.getElem?_eq_getElem hl⟩
  · subst ex eH
    obtain ⟨d, hd, hv⟩ := da.getV (y xs (s2.seq (s1.seq hq)))
    have sg := Stp.newF (p := T) (o := .tup [.int (i : Nat), z]) s2 hT
    refine ⟨_, .tuple [.int (i : Nat), d], sg, by simp [numbered, hd], .tup (SqT.of upd_same) (.cons (.int _) (.cons (dp_mono (s1.trans sg.gg) _ _ hv) .nil))⟩
def enF (F : Fd) : Fl := fun ρ => (seqF F ρ).map numbered
theorem i_enum {a : Expr} {p tpos : Pos} {elts : List Expr} {kk : Nat} (hg : Gl X "enumerate") (hm : X.mg "enumerate" = none) (h : PE X a (RD X.K O F)) (hs : starEach [a] X.env = [(false, eval a X.env)] := by rfl) (hs1 : starEach [a] X.env = (false, eval a X.env) :: starEach [] X.env := by rfl) :
    PI X (.Tuple elts kk tpos) (.Call (.Name "enumerate" p) [a] [] pos) (RI X.K O (enF F)) :=
  pi_imp (pi_enum hg hm (pa_cons (pe_sz h) pa_nil hs1) hs) fun σ H R' ⟨Γ, G, ρ, ds, R, ef, q⟩ => by
    unfold enF at ef
    cases e1 : seqF F ρ with
    | none => rw [e1] at ef; cases ef
    | some xs =>
      rw [e1] at ef; cases ef
      refine ⟨Γ, G, ρ, _, R, seqF_some e1, fun v G1 H1 s1 dv sz => ?_⟩
      cases dv with
      | lst hq da => exact ⟨_, _, rfl, s1.gh.seq hq, q _ G1 H1 s1 (itd_enum hq da) (by show (numbered xs).length ≤ _; simp only [numbered, List.length_mapIdx]; rw [← da.length]; exact sz _ _ rfl (.inl (s1.gh.seq hq)))⟩

/-! ### targets -/
abbrev Tgt := PyData → Dv → Option Dv
def TgD (K : PySem.W.Frag) (O : Os) (g : TG) (tgt : Tgt) (vs : List Nat) : Prop := ∀ (Γ : Gh) (G H : Hp) (σ : L2.St) (ρ ρ' : Dv) (v : V) (d : PyData) (Q : L2.St → Hp → Prop), Rep K Γ G H O σ ρ → Dp K G v d → tgt d ρ = some ρ' →
  (∀ σ', Rep K Γ G H O σ' ρ' → (∀ ws : List Nat, (∀ x, x ∈ vs → x ∈ ws) → wipe σ' ws = wipe σ ws) → Q σ' H) → g v σ H Q
theorem wipe_get (σ : L2.St) (k : Nat) : ∀ ws : List Nat, (wipe σ ws)[k]? = if k ∈ ws then (if k < σ.length then some none else none) else σ[k]?
  | [] => by simp [wipe]
  | w :: ws => by
    have ih := wipe_get σ k ws
    unfold wipe
    by_cases h : w = k
    · subst h
      by_cases hl : w < σ.length
      · rw [List.getElem?_set_self (by rw [wipe_length]; exact hl)]; simp [hl]
      · rw [List.getElem?_eq_none (by rw [List.length_set, wipe_length]; omega)]; simp [hl]
    · rw [List.getElem?_set_ne h, ih]
      have : k ∈ w :: ws ↔ k ∈ ws := by simp [List.mem_cons, Ne.symm h]
      by_cases hk : k ∈ ws
      · rw [if_pos hk, if_pos (this.mpr hk)]
      · rw [if_neg hk, if_neg (fun z => hk (this.mp z))]
theorem wipe_set {σ : L2.St} {i : Nat} {x : Option V} {ws : List Nat} (h : i ∈ ws) : wipe (σ.set i x) ws = wipe σ ws := by
  apply List.ext_getElem?
  intro k
  rw [wipe_get, wipe_get, List.length_set]
  by_cases hk : k ∈ ws
  · rw [if_pos hk, if_pos hk]
  · rw [if_neg hk, if_neg hk, List.getElem?_set_ne (fun z => hk (by rw [← z]; exact h))]
theorem wipe_wipe (σ : L2.St) (ws : List Nat) : wipe (wipe σ ws) ws = wipe σ ws := by
  apply List.ext_getElem?
  intro k
  rw [wipe_get, wipe_get, wipe_length]
  by_cases hk : k ∈ ws
  · rw [if_pos hk, if_pos hk]
  · rw [if_neg hk]
/-- a frozen value is stored in a slot that is not the def's own -/
theorem Rep.store {K : PySem.W.Frag} {Γ : Gh} {G H : Hp} {O : Os} {σ : L2.St} {ρ : Dv} {i : Nat} {v : V} {d : PyData} (R : Rep K Γ G H O σ ρ) (hi : nin i O = true) (dv : Dp K G v d) : Rep K Γ G H O (σ.set i (some v)) (ρ.set i (some d)) := by
  have ne : ∀ {j : Nat} {kd : Kd}, (j, kd) ∈ O → i ≠ j := fun {j kd} m z => nin_of hi (kd := kd) (by rw [z]; exact m)
  refine ⟨R.base, by rw [List.length_set, List.length_set]; exact R.len, fun j d' hj e => ?_, ?_, fun j kd w m => ?_, R.uq⟩
  · by_cases h : i = j
    · subst h
      have hl : i < ρ.length := by
        have := (List.getElem?_eq_some_iff.mp e).1
        rwa [List.length_set] at this
      rw [List.getElem?_set_self hl] at e
      cases e
      exact ⟨v, List.getElem?_set_self (by rw [R.len]; exact hl), dv⟩
    · rw [List.getElem?_set_ne h] at e
      obtain ⟨v', h1, h2⟩ := R.fz j d' hj e
      exact ⟨v', by rw [List.getElem?_set_ne h]; exact h1, h2⟩
  · obtain ⟨fp, h1, h2⟩ := R.ow
    refine ⟨fp, fun j kd d' hj e => ?_, h2⟩
    rw [List.getElem?_set_ne (ne hj)] at e
    obtain ⟨v', e1, r⟩ := h1 j kd d' hj e
    exact ⟨v', by rw [List.getElem?_set_ne (ne hj)]; exact e1, r⟩
  · obtain ⟨p1, p2, p3⟩ := R.par j kd w m
    exact ⟨p1, p2, by rw [List.getElem?_set_ne (ne p1)]; exact p3⟩
def tgN (i : Nat) : Tgt := fun d ρ => some (ρ.set i (some d))
theorem tg_n {K : PySem.W.Frag} {i : Nat} (hi : nin i O = true) : TgD K O (gName i) (tgN i) [i] := fun Γ G H σ ρ ρ' v d Q R dv e q => by
  cases e
  exact q _ (R.store hi dv) fun ws hw => wipe_set (hw i (by simp))
def tgP (i j : Nat) : Tgt := fun d ρ => match d with | .tuple [a, b] => some ((ρ.set i (some a)).set j (some b)) | _ => none
theorem tg_p {K : PySem.W.Frag} {i j : Nat} (hi : nin i O = true) (hj : nin j O = true) : TgD K O (gTup K 2 (gCons (gName i) (gCons (gName j) gNil))) (tgP i j) [i, j] := fun Γ G H σ ρ ρ' v d Q R dv e q => by
  have hd : ∃ a b, d = .tuple [a, b] ∧ (ρ.set i (some a)).set j (some b) = ρ' := by
    unfold tgP at e
    split at e
    · cases e; exact ⟨_, _, rfl, rfl⟩
    · cases e
  obtain ⟨a, b, rfl, rfl⟩ := hd
  cases dv with
  | tup hq da =>
    cases da with
    | cons d1 t =>
      cases t with
      | cons d2 t =>
        cases t
        exact ⟨_, _, rfl, seqT_same R.gh hq, rfl, _, _, rfl, _, _, rfl, rfl, q _ ((R.store hi d1).store hj d2) fun ws hw => by rw [wipe_set (hw j (by simp)), wipe_set (hw i (by simp))]⟩
def tgT (i j k : Nat) : Tgt := fun d ρ => match d with | .tuple [a, b, c] => some (((ρ.set i (some a)).set j (some b)).set k (some c)) | _ => none

/-! ### comprehensions -/
def wipeD (ρ : Dv) : List Nat → Dv
  | [] => ρ
  | v :: vs => (wipeD ρ vs).set v none
theorem wipeD_length (ρ : Dv) : ∀ vs : List Nat, (wipeD ρ vs).length = ρ.length
  | [] => rfl
  | v :: vs => by unfold wipeD; rw [List.length_set, wipeD_length ρ vs]
theorem wipeD_get (σ : Dv) (k : Nat) : ∀ ws : List Nat, (wipeD σ ws)[k]? = if k ∈ ws then (if k < σ.length then some none else none) else σ[k]?
  | [] => by simp [wipeD]
  | w :: ws => by
    have ih := wipeD_get σ k ws
    unfold wipeD
    by_cases h : w = k
    · subst h
      by_cases hl : w < σ.length
      · rw [List.getElem?_set_self (by rw [wipeD_length]; exact hl)]; simp [hl]
      · rw [List.getElem?_eq_none (by rw [List.length_set, wipeD_length]; omega)]; simp [hl]
    · rw [List.getElem?_set_ne h, ih]
      have : k ∈ w :: ws ↔ k ∈ ws := by simp [List.mem_cons, Ne.symm h]
      by_cases hk : k ∈ ws
      · rw [if_pos hk, if_pos (this.mpr hk)]
      · rw [if_neg hk, if_neg (fun z => hk (this.mp z))]
theorem wipeD_some {ρ : Dv} {k : Nat} {ws : List Nat} {d : PyData} (h : (wipeD ρ ws)[k]? = some (some d)) : k ∉ ws ∧ ρ[k]? = some (some d) := by
  rw [wipeD_get] at h
  by_cases hk : k ∈ ws
  · rw [if_pos hk] at h
    split at h
    · cases h
    · cases h
  · rw [if_neg hk] at h; exact ⟨hk, h⟩
theorem Rep.wiped {K : PySem.W.Frag} {Γ : Gh} {G H : Hp} {σ : L2.St} {ρ : Dv} (R : Rep K Γ G H O σ ρ) (ws : List Nat) (hw : ws.all (fun i => nin i O) = true) : Rep K Γ G H O (wipe σ ws) (wipeD ρ ws) := by
  have ne : ∀ {k : Nat}, k ∉ ws → (wipe σ ws)[k]? = σ[k]? := fun {k} hk => by rw [wipe_get, if_neg hk]
  refine ⟨R.base, by rw [wipe_length, wipeD_length]; exact R.len, fun j d hj e => ?_, ?_, fun j kd w m => ?_, R.uq⟩
  · obtain ⟨h1, h2⟩ := wipeD_some e
    obtain ⟨v, h3, h4⟩ := R.fz j d hj h2
    exact ⟨v, by rw [ne h1]; exact h3, h4⟩
  · obtain ⟨fp, h1, h2⟩ := R.ow
    refine ⟨fp, fun j kd d hj e => ?_, h2⟩
    obtain ⟨q1, q2⟩ := wipeD_some e
    obtain ⟨v, e1, r⟩ := h1 j kd d hj q2
    exact ⟨v, by rw [ne q1]; exact e1, r⟩
  · obtain ⟨p1, p2, p3⟩ := R.par j kd w m
    refine ⟨p1, p2, ?_⟩
    rw [ne fun hj => nin_of (List.all_eq_true.mp hw j hj) p1]
    exact p3
def lcGo (tgt : Tgt) (C : Dv → Option Bool) (E : Fd) (ρ : Dv) : List PyData → Option (List PyData)
  | [] => some []
  | d :: ds => (tgt d ρ).bind fun ρ1 => match C ρ1 with
    | some true => (E ρ1).bind fun y => (lcGo tgt C E ρ ds).map (y :: ·)
    | some false => lcGo tgt C E ρ ds
    | none => none
def lcF (Fs : Fl) (vs : List Nat) (tgt : Tgt) (C : Dv → Option Bool) (E : Fd) : Fl := fun ρ => (Fs ρ).bind fun ds => lcGo tgt C E (wipeD ρ vs) ds
def yesT : Dv → Option Bool := fun _ => some true
theorem lc_imp {K : PySem.W.Frag} {Fs : Fl} {vs us : List Nat} {g : TG} {tgt : Tgt} {C : Dv → Option Bool} {E : Fd} (htg : TgD K O g tgt us) (hus : ∀ x, x ∈ us → x ∈ vs) (hvs : vs.all (fun i => nin i O) = true) {σ : L2.St} {H : Hp} {Q : VK} (h : RO K O (lcF Fs vs tgt C E) σ H Q) : tLc (RI K O Fs) g (RT K O C) (RD K O E) vs σ H Q := by
  obtain ⟨Γ, G, ρ, ys, R, ef, q⟩ := h
  unfold lcF at ef
  cases e1 : Fs ρ with
  | none => rw [e1] at ef; cases ef
  | some ds =>
    rw [e1] at ef
    have ef : lcGo tgt C E (wipeD ρ vs) ds = some ys := ef
    refine ⟨Γ, G, ρ, ds, R, e1, fun J G1 H1 s1 it len D hD => ?_⟩
    have gD : G1 D = none := s1.gh.free hD
    refine ⟨fun i m H2 => m = ds.length - i ∧ i ≤ ds.length ∧ ∃ G2 acc done rest, Stp G1 H1 G2 H2 ∧ G2 D = none ∧ H2 D = some (.lst acc) ∧ acc.length ≤ i ∧ DpAll K G2 acc done ∧ lcGo tgt C E (wipeD ρ vs) (ds.drop i) = some rest ∧ ys = done ++ rest,
      ⟨ds.length, by simp, Nat.zero_le _, G1, [], [], ys, Stp.new s1.gh hD, gD, upd_same, Nat.le_refl _, .nil, ef, rfl⟩, ?_⟩
    rintro i m H2 ⟨rfl, hi, G2, acc, done, rest, s2, g2, h2, hl, da, el, ey⟩
    by_cases hlt : i < ds.length
    · refine .inr ⟨it.go i G2 H2 s2.gg s2.gh hlt, fun H' => ds.length - (i + 1) = ds.length - (i + 1) ∧ i + 1 ≤ ds.length ∧ ∃ G2 acc done rest, Stp G1 H1 G2 H' ∧ G2 D = none ∧ H' D = some (.lst acc) ∧ acc.length ≤ i + 1 ∧ DpAll K G2 acc done ∧ lcGo tgt C E (wipeD ρ vs) (ds.drop (i + 1)) = some rest ∧ ys = done ++ rest,
        fun H' w => ⟨_, by omega, w⟩, fun x H3 y => ?_⟩
      obtain ⟨G3, d, s3, hd, dv⟩ := it.yl i G2 H2 x H3 s2.gg s2.gh hlt y
      have ed : ds.drop i = d :: ds.drop (i + 1) := by
        rw [List.drop_eq_getElem_cons hlt]
        congr 1
        rw [List.getElem?_eq_getElem hlt] at hd
        exact Option.some.inj hd
      rw [ed] at el
      simp only [lcGo] at el
      cases e2 : tgt d (wipeD ρ vs) with
      | none => rw [e2] at el; cases el
      | some ρ1 =>
        rw [e2, Option.bind_some] at el
        have hH2 : H2 D ≠ none := by rw [h2]; exact fun z => nomatch z
        have g3 : G3 D = none := s3.sep D hH2 g2
        have h3 : H3 D = some (.lst acc) := s3.hh _ _ h2
        have R3 := (((R.stp s1).stp s2).stp s3).wiped vs hvs
        refine htg Γ G3 H3 _ _ _ x d _ R3 dv e2 fun σ' R' hw => ⟨(hw vs hus).trans (wipe_wipe σ vs), ?_⟩
        cases e3 : C ρ1 with
        | none => rw [e3] at el; cases el
        | some b =>
          rw [e3] at el
          refine ⟨Γ, G3, ρ1, b, R', e3, fun G4 H4 s4 => ?_⟩
          have g4 : G4 D = none := s4.sep D (by rw [h3]; exact fun z => nomatch z) g3
          have h4 : H4 D = some (.lst acc) := s4.hh _ _ h3
          have s14 := (s2.trans s3).trans s4
          cases b with
          | false =>
            exact iteF ⟨rfl, hlt, G4, acc, done, rest, s14, g4, h4, by omega, dpAll_mono (s3.gg.trans s4.gg) _ _ da, el, ey⟩
          | true =>
            have el : ((E ρ1).bind fun y => (lcGo tgt C E (wipeD ρ vs) (ds.drop (i + 1))).map (y :: ·)) = some rest := el
            cases e5 : E ρ1 with
            | none => rw [e5] at el; cases el
            | some y1 =>
              rw [e5, Option.bind_some] at el
              cases e6 : lcGo tgt C E (wipeD ρ vs) (ds.drop (i + 1)) with
              | none => rw [e6] at el; cases el
              | some rest' =>
                rw [e6] at el; cases el
                refine iteT ⟨Γ, G4, ρ1, y1, R'.stp s4, e5, fun v G5 H5 s5 dv5 => ?_⟩
                have g5 : G5 D = none := s5.sep D (by rw [h4]; exact fun z => nomatch z) g4
                have h5 : H5 D = some (.lst acc) := s5.hh _ _ h4
                have s15 := s14.trans s5
                refine ⟨acc, h5, by omega, rfl, hlt, G5, acc ++ [v], done ++ [y1], rest', ?_, g5, upd_same, by rw [List.length_append, List.length_singleton]; omega, (dpAll_mono ((s3.gg.trans s4.gg).trans s5.gg) _ _ da).append (.cons dv5 .nil), rfl, by rw [ey, List.append_assoc]; rfl⟩
                refine ⟨fun a u z => ?_, s15.gg, fun a u z => ?_, s15.sep⟩
                · rw [upd_ne (ne_of_none z hD)]; exact s15.hh a u z
                · rw [upd_ne (ne_of_none z g5)]; exact s15.gh a u z
    · have hi' : i = ds.length := by omega
      refine .inl ⟨by rw [hi']; exact it.st G2 H2 s2.gg s2.gh, ?_⟩
      rw [hi', List.drop_length] at el
      cases el
      rw [List.append_nil] at ey
      subst ey
      exact q D acc G2 H2 (s1.trans s2) (s1.hh.free hD) g2 h2 da
theorem o_lc {elt iter : Expr} {ifs : List Expr} {scope : Scope} {own : List (Str × Nat)} {Fs : Fl} {us : List Nat} {g : TG} {tgt : Tgt} {C : Dv → Option Bool} {E : Fd} (hc : X.calm = true) (hN : X.N.Nodup) (hi : PI X tg iter (RI X.K O Fs)) (ok : BlkOk X.N X.env.scope scope own)
    (htg : TgD X.K O g tgt us) (hus : ∀ x, x ∈ us → x ∈ own.map (·.2)) (hvs : (own.map (·.2)).all (fun i => nin i O) = true)
    (hg : ∀ (s : Shared) (H : Hp) (C : Addr) (cl : List (Str × Addr)) (fp : List Addr), PG (X.blk s H scope (compEnvC scope cl C X.env) fp) tg g) (ht : ∀ (s : Shared) (H : Hp) (C' : Addr) (cl : List (Str × Addr)) (fp : List Addr), PTs (X.blk s H scope (compEnvC scope cl C' X.env) fp) ifs (RT X.K O C))
    (he : ∀ (s : Shared) (H : Hp) (C : Addr) (cl : List (Str × Addr)) (fp : List Addr), PE (X.blk s H scope (compEnvC scope cl C X.env) fp) elt (RD X.K O E)) (hs : ∀ x, foldedSetIterable iter X.env x = pure x := by intro _; rfl) :
    PE X (.ListComp elt [⟨tg, iter, ifs, 0⟩] scope pos) (RO X.K O (lcF Fs (own.map (·.2)) tgt C E)) :=
  pe_imp (pe_lc hc hN hi ok hg ht he hs) fun σ H Q h => lc_imp htg hus hvs h
theorem ts_nil : PTs X [] (RT X.K O yesT) := ⟨fun pins s σ H Q I ⟨Γ, G, ρ, b, R, e, q⟩ => by cases e; exact pts_nil.run pins s σ H Q I (q G H (Stp.refl R.gh))⟩
theorem ts_one {c : Expr} {C : Dv → Option Bool} (h : PT X c (RT X.K O C)) : PTs X [c] (RT X.K O C) := pts_one h
end
end Dat
open PySem PySem.Spec PyProof.Rows L2
namespace Dat

/-! ### statements -/
inductive Res where
  | nx (ρ : Dv) | ret (d : PyData) (ρ : Dv) | brk (ρ : Dv) | ct (ρ : Dv)
  /-- an exception of the class at c leaves -/
  | exc (c : Addr) (ρ : Dv)
abbrev Bs := Dv → Option Res
def Fin' (K : PySem.W.Frag) (W : XK) (Γ : Gh) (O OL : Os) (D : Ends) : Res → Prop
  | .nx ρ => ∀ σ G H, Rep K Γ G H O σ ρ → D.nx σ H
  | .ret d ρ => ∀ v σ G H Or, Rep K Γ G H Or σ ρ → Dp K G v d → D.rt v H
  | .brk ρ => ∀ σ G H, Rep K Γ G H OL σ ρ → D.bk σ H
  | .ct ρ => ∀ σ G H, Rep K Γ G H OL σ ρ → D.ct σ H
  | .exc c ρ => ∀ σ G H Or, Rep K Γ G H Or σ ρ → W (.ref c) none H
/-- O: the def's own things ahead of it, O': behind it, OL: where a loop's turn ends; W: what is wanted of an exception -/
def RS (K : PySem.W.Frag) (W : XK) (O O' OL : Os) (B : Bs) : TS := fun D σ H => ∃ Γ G ρ r, Rep K Γ G H O σ ρ ∧ B ρ = some r ∧ Fin' K W Γ O' OL D r
section
variable {W : XK} {X : Cx} {st : Stmt} {rest body : List Stmt} {e a : Expr} {pos pos' : Pos} {O O1 O' OL : Os} {F : Fd} {L : Fl} {B B' : Bs} {C : Dv → Option Bool}
theorem ps_imp {t t' : TS} (h : PS X st t) (w : ∀ D σ H, t' D σ H → t D σ H) : PS X st t' := ⟨fun pins s σ H D I q => h.run pins s σ H D I (w _ _ _ q)⟩
theorem pss_imp {t t' : TS} (h : PSs X rest t) (w : ∀ D σ H, t' D σ H → t D σ H) : PSs X rest t' := ⟨fun pins s σ H D I q => h.run pins s σ H D I (w _ _ _ q)⟩
def nopS : Bs := fun ρ => some (.nx ρ)
def seqS (B B' : Bs) : Bs := fun ρ => match B ρ with | some (.nx ρ') => B' ρ' | r => r
theorem s_nil : PSs X [] (RS X.K W O O OL nopS) := pss_imp pss_nil fun D σ H ⟨Γ, G, ρ, r, R, e, f⟩ => by cases e; exact f σ G H R
theorem s_cons (h : PS X st (RS X.K W O O1 OL B)) (h' : PSs X rest (RS X.K W O1 O' OL B')) : PSs X (st :: rest) (RS X.K W O O' OL (seqS B B')) := pss_imp (pss_cons h h') fun D σ H ⟨Γ, G, ρ, r, R, e, f⟩ => by
  unfold seqS at e
  cases q : B ρ with
  | none => rw [q] at e; cases e
  | some z =>
    rw [q] at e
    refine ⟨Γ, G, ρ, z, R, q, ?_⟩
    cases z with
    | nx ρ' => exact fun σ' G' H' R' => ⟨Γ, G', ρ', r, R', e, f⟩
    | ret d ρ' => cases e; exact f
    | brk ρ' => cases e; exact f
    | ct ρ' => cases e; exact f
    | exc c ρ' => cases e; exact f
theorem s_one (h : PS X st (RS X.K W O O' OL B)) : PSs X [st] (RS X.K W O O' OL B) := pss_one h
theorem s_pass : PS X (.Pass pos) (RS X.K W O O OL nopS) := ps_imp ps_pass fun D σ H ⟨Γ, G, ρ, r, R, e, f⟩ => by cases e; exact f σ G H R
theorem s_doc {x : Str} {j : Nat} : PS X (.Expr (.Constant (.str x) j pos) pos') (RS X.K W O O OL nopS) := ps_imp ps_doc fun D σ H ⟨Γ, G, ρ, r, R, e, f⟩ => by cases e; exact f σ G H R
def brkS : Bs := fun ρ => some (.brk ρ)
def ctS : Bs := fun ρ => some (.ct ρ)
theorem s_break : PS X (.Break pos) (RS X.K W O O' O brkS) := ps_imp ps_break fun D σ H ⟨Γ, G, ρ, r, R, e, f⟩ => by cases e; exact f σ G H R
theorem s_continue : PS X (.Continue pos) (RS X.K W O O' O ctS) := ps_imp ps_continue fun D σ H ⟨Γ, G, ρ, r, R, e, f⟩ => by cases e; exact f σ G H R
/-- an own list is frozen ahead of a statement -/
theorem s_frz (i : Nat) (hl : lsl i O = true) (h : PS X st (RS X.K W (dropO i O) O' OL B)) : PS X st (RS X.K W O O' OL B) := ps_imp h fun D σ H ⟨Γ, G, ρ, r, R, e, f⟩ => by
  obtain ⟨G', _, R'⟩ := R.freeze i hl
  exact ⟨Γ, G', ρ, r, R', e, f⟩
theorem ss_frz (i : Nat) (hl : lsl i O = true) (h : PSs X rest (RS X.K W (dropO i O) O' OL B)) : PSs X rest (RS X.K W O O' OL B) := pss_imp h fun D σ H ⟨Γ, G, ρ, r, R, e, f⟩ => by
  obtain ⟨G', _, R'⟩ := R.freeze i hl
  exact ⟨Γ, G', ρ, r, R', e, f⟩
/-- .. behind a block -/
theorem ss_frzE (i : Nat) (hl : lsl i O1 = true) (h : PSs X rest (RS X.K W O O1 OL B)) (e1 : O' = dropO i O1) : PSs X rest (RS X.K W O O' OL B) := pss_imp h fun D σ H ⟨Γ, G, ρ, r, R, e, f⟩ => by
  subst e1
  refine ⟨Γ, G, ρ, r, R, e, ?_⟩
  cases r with
  | nx ρ' =>
    intro σ' G' H' R'
    obtain ⟨G2, _, R2⟩ := Rep.freeze R' i hl
    exact f σ' G2 H' R2
  | ret d ρ' => exact f
  | brk ρ' => exact f
  | ct ρ' => exact f
  | exc c ρ' => exact f
def ifS (C : Dv → Option Bool) (B B' : Bs) : Bs := fun ρ => match C ρ with | some true => B ρ | some false => B' ρ | none => none
theorem s_if {c : Expr} {x y : List Stmt} (hc : PT X c (RT X.K O C)) (h : PSs X x (RS X.K W O O' OL B)) (h' : PSs X y (RS X.K W O O' OL B')) : PS X (.If c x y pos) (RS X.K W O O' OL (ifS C B B')) := ps_imp (ps_if hc h h') fun D σ H ⟨Γ, G, ρ, r, R, e, f⟩ => by
  unfold ifS at e
  cases q : C ρ with
  | none => rw [q] at e; cases e
  | some k =>
    rw [q] at e
    cases k with
    | true => exact ⟨Γ, G, ρ, true, R, q, fun G' H' s => iteT ⟨Γ, G', ρ, r, R.stp s, e, f⟩⟩
    | false => exact ⟨Γ, G, ρ, false, R, q, fun G' H' s => iteF ⟨Γ, G', ρ, r, R.stp s, e, f⟩⟩
def retS (F : Fd) : Bs := fun ρ => (F ρ).map fun d => .ret d ρ
theorem s_ret (h : PE X e (RD X.K O F)) : PS X (.Return (some e) pos) (RS X.K W O O' OL (retS F)) := ps_imp (ps_ret h) fun D σ H ⟨Γ, G, ρ, r, R, er, f⟩ => by
  unfold retS at er
  cases q : F ρ with
  | none => rw [q] at er; cases er
  | some d => rw [q] at er; cases er; exact ⟨Γ, G, ρ, d, R, q, fun v G' H' s dv => f v σ G' H' O (R.stp s) dv⟩
def retN : Bs := fun ρ => some (.ret .none ρ)
theorem s_retN : PS X (.Return none pos) (RS X.K W O O' OL retN) := ps_imp ps_retN fun D σ H ⟨Γ, G, ρ, r, R, er, f⟩ => by cases er; exact f _ σ G H O R .non
/-- .. of an own list -/
theorem s_retV {j : Str} (i : Nat) (h : PE X (.Name j pos') (tVar i)) (hl : lsl i O = true := by rfl) : PS X (.Return (some (.Name j pos')) pos) (RS X.K W O O' OL (retS (vF i))) := s_frz i hl (s_ret (d_var i h (nin_drop.mpr (.inr rfl))))
def exS (F : Fd) : Bs := fun ρ => (F ρ).map fun _ => .nx ρ
theorem s_expr (h : PE X e (RD X.K O F)) (hs : swapsWith e none pos.line X.env = pure false := by rfl) : PS X (.Expr e pos) (RS X.K W O O OL (exS F)) := ps_imp (ps_expr h hs) fun D σ H ⟨Γ, G, ρ, r, R, er, f⟩ => by
  unfold exS at er
  cases q : F ρ with
  | none => rw [q] at er; cases er
  | some d => rw [q] at er; cases er; exact ⟨Γ, G, ρ, d, R, q, fun v G' H' s dv => f σ G' H' (R.stp s)⟩
/-! ### x = e -/
def setS (i : Nat) (F : Fd) : Bs := fun ρ => (F ρ).map fun d => .nx (ρ.set i (some d))
theorem setS_some {i : Nat} {ρ : Dv} {r : Res} (h : setS i F ρ = some r) : ∃ d, F ρ = some d ∧ r = .nx (ρ.set i (some d)) := by
  unfold setS at h
  cases q : F ρ with
  | none => rw [q] at h; cases h
  | some d => rw [q] at h; cases h; exact ⟨d, rfl, rfl⟩
theorem set_imp {i : Nat} {te : TE} {D : Ends} {σ : L2.St} {H : Hp} (hi : nin i O = true) (w : ∀ Q, RD X.K O F σ H Q → te σ H Q) (h : RS X.K W O O OL (setS i F) D σ H) : tAsg te (gName i) D σ H := by
  obtain ⟨Γ, G, ρ, r, R, er, f⟩ := h
  obtain ⟨d, e1, rfl⟩ := setS_some er
  exact w _ ⟨Γ, G, ρ, d, R, e1, fun v G' H' s dv => f _ G' H' ((R.stp s).store hi dv)⟩
theorem s_set {i : Nat} {x : Str} (hN : X.N.Nodup) (hi : X.N[i]? = some x) (hx : Loc X.env.scope x) (hO : nin i O = true) (he : PE X e (RD X.K O F)) (hs : swapsWith e (some (.Name x pos')) pos.line X.env = pure false := by rfl) (hf : X.fn x = true ∨ X.env.scope.names.lookup x = some .local := by first | exact .inl rfl | exact .inr rfl | assumption) :
    PS X (.Assign [.Name x pos'] e pos) (RS X.K W O O OL (setS i F)) := ps_imp (ps_set hN hi hx he hs hf) fun D σ H h => set_imp hO (fun Q h' => h') h
def setO (i : Nat) (L : Fl) : Bs := setS i (lstF L)
def insK (i : Nat) (kd : Kd) (O : Os) : Os := if nin i O then (i, kd) :: O else O.map fun p => if p.1 == i then (i, kd) else p
theorem mem_insK {i j : Nat} {kd k : Kd} {O : Os} : (j, k) ∈ insK i kd O ↔ (j = i ∧ k = kd) ∨ (j ≠ i ∧ (j, k) ∈ O) := by
  unfold insK
  cases h : nin i O with
  | true =>
    rw [if_pos rfl, List.mem_cons, Prod.mk.injEq]
    constructor
    · rintro (⟨rfl, rfl⟩ | m)
      · exact .inl ⟨rfl, rfl⟩
      · exact .inr ⟨fun z => nin_of h (by rw [← z]; exact m), m⟩
    · rintro (⟨rfl, rfl⟩ | ⟨_, m⟩)
      · exact .inl ⟨rfl, rfl⟩
      · exact .inr m
  | false =>
    rw [if_neg Bool.false_ne_true, List.mem_map]
    constructor
    · rintro ⟨⟨a, b⟩, m, e⟩
      by_cases q : a = i
      · subst q
        simp at e
        exact .inl ⟨e.1.symm, e.2.symm⟩
      · simp [q] at e
        obtain ⟨rfl, rfl⟩ := e
        exact .inr ⟨q, m⟩
    · rintro (⟨rfl, rfl⟩ | ⟨n, m⟩)
      · rcases own_or (i := j) (O := O) with q | ⟨kd', m⟩
        · rw [h] at q; cases q
        · exact ⟨(j, kd'), m, by simp⟩
      · exact ⟨(j, k), m, by simp [n]⟩
theorem nin_insK {i j : Nat} {kd : Kd} {O : Os} (h : nin j (insK i kd O) = true) : j ≠ i ∧ nin j O = true := by
  have hne : j ≠ i := fun z => nin_of h (kd := kd) (mem_insK.mpr (.inl ⟨z, rfl⟩))
  refine ⟨hne, ?_⟩
  rcases own_or (i := j) (O := O) with q | ⟨k, m⟩
  · exact q
  · exact absurd (mem_insK.mpr (.inr ⟨hne, m⟩)) (nin_of h)
open Classical in
noncomputable def fpN (O : Os) (ρ : Dv) (fq : Nat → List Addr) (i : Nat) (fp : List Addr) : Nat → List Addr := fun j => if j = i then fp else if ∃ k d', (j, k) ∈ O ∧ ρ[j]? = some (some d') then fq j else []
theorem fpN_self {O : Os} {ρ : Dv} {fq : Nat → List Addr} {i : Nat} {fp : List Addr} : fpN O ρ fq i fp i = fp := by unfold fpN; rw [if_pos rfl]
theorem fpN_live {O : Os} {ρ : Dv} {fq : Nat → List Addr} {i j : Nat} {fp : List Addr} {k : Kd} {d : PyData} (hne : j ≠ i) (m : (j, k) ∈ O) (e : ρ[j]? = some (some d)) : fpN O ρ fq i fp j = fq j := by unfold fpN; rw [if_neg hne, if_pos ⟨k, d, m, e⟩]
theorem fpN_mem {O : Os} {ρ : Dv} {fq : Nat → List Addr} {i j : Nat} {fp : List Addr} {a : Addr} (hne : j ≠ i) (h : a ∈ fpN O ρ fq i fp j) : a ∈ fq j ∧ ∃ k d', (j, k) ∈ O ∧ ρ[j]? = some (some d') := by
  unfold fpN at h
  rw [if_neg hne] at h
  by_cases z : ∃ k d', (j, k) ∈ O ∧ ρ[j]? = some (some d')
  · rw [if_pos z] at h; exact ⟨h, z⟩
  · rw [if_neg z] at h; cases h
/-- a slot gets a new thing of the def's own -/
theorem Rep.storeK {K : PySem.W.Frag} {Γ : Gh} {G H G' H' : Hp} {σ : L2.St} {ρ : Dv} {i : Nat} {kd : Kd} {v : V} {fp : List Addr} {d : PyData} (R : Rep K Γ G H O σ ρ) (s : Stp G H G' H') (hl : lsl i O = true) (o : Own K G' H' kd v fp d) (n : ∀ a, a ∈ fp → H a = none ∧ G' a = none) :
    Rep K Γ G' H' (insK i kd O) (σ.set i (some v)) (ρ.set i (some d)) := by
  have R' := R.stp s
  refine ⟨R'.base, by rw [List.length_set, List.length_set]; exact R.len, fun j d' hj e => ?_, ?_, fun j k w m => ?_, fun j k k' m m' => ?_⟩
  · obtain ⟨h1, h2⟩ := nin_insK hj
    rw [List.getElem?_set_ne (Ne.symm h1)] at e
    obtain ⟨v', h3, h4⟩ := R'.fz j d' h2 e
    exact ⟨v', by rw [List.getElem?_set_ne (Ne.symm h1)]; exact h3, h4⟩
  · obtain ⟨fq, h1, h2⟩ := R.ow
    -- the footprints: the others' as far as they are alive
    refine ⟨fpN O ρ fq i fp, fun j k d' hj e => ?_, fun j j' a hne ha hb => ?_⟩
    · rcases mem_insK.mp hj with ⟨rfl, rfl⟩ | ⟨hne, m⟩
      · have hlen : j < ρ.length := by
          have := (List.getElem?_eq_some_iff.mp e).1
          rwa [List.length_set] at this
        rw [List.getElem?_set_self hlen] at e
        cases e
        refine ⟨v, List.getElem?_set_self (by rw [R.len]; exact hlen), by rw [fpN_self]; exact o, fun a ha => ?_⟩
        rw [fpN_self] at ha
        exact ⟨R.base.hh.free (n a ha).1, (n a ha).2⟩
      · rw [List.getElem?_set_ne (Ne.symm hne)] at e
        obtain ⟨v', e1, o', n'⟩ := h1 j k d' m e
        refine ⟨v', by rw [List.getElem?_set_ne (Ne.symm hne)]; exact e1, ?_, fun a ha => ?_⟩
        · rw [fpN_live hne m e]; exact o'.stp s
        · rw [fpN_live hne m e] at ha
          exact ⟨(n' a ha).1, s.sep a (o'.here a ha) (n' a ha).2⟩
    · have alive : ∀ {q : Nat}, q ≠ i → a ∈ fpN O ρ fq i fp q → a ∈ fq q ∧ H a ≠ none := fun {q} hq h => by
        obtain ⟨z, k, d', m, e⟩ := fpN_mem hq h
        obtain ⟨_, _, o', _⟩ := h1 q k d' m e
        exact ⟨z, o'.here a z⟩
      by_cases hj : j = i
      · have hj' : j' ≠ i := fun z => hne (hj.trans z.symm)
        subst hj
        rw [fpN_self] at ha
        exact (alive hj' hb).2 (n a ha).1
      · obtain ⟨a1, a2⟩ := alive hj ha
        by_cases hj' : j' = i
        · subst hj'
          rw [fpN_self] at hb
          exact a2 (n a hb).1
        · exact h2 j j' a hne a1 (alive hj' hb).1
  · obtain ⟨p1, p2, p3⟩ := R.par j k w m
    have hne : j ≠ i := fun z => by subst z; rw [lsl_of hl p1] at p2; cases p2
    exact ⟨mem_insK.mpr (.inr ⟨hne, p1⟩), p2, by rw [List.getElem?_set_ne (Ne.symm hne)]; exact p3⟩
  · rcases mem_insK.mp m with ⟨rfl, rfl⟩ | ⟨hne, m⟩
    · rcases mem_insK.mp m' with ⟨_, rfl⟩ | ⟨hne, _⟩
      · rfl
      · exact absurd rfl hne
    · rcases mem_insK.mp m' with ⟨z, _⟩ | ⟨_, m'⟩
      · exact absurd z hne
      · exact R.uq j k k' m m'
/-- a thing of the def's own is changed, or another one made of it is put into its place -/
theorem Rep.changeV {K : PySem.W.Frag} {Γ : Gh} {G H : Hp} {σ : L2.St} {ρ : Dv} {i : Nat} {kd : Kd} {d : PyData} (R : Rep K Γ G H O σ ρ) (hi : (i, kd) ∈ O) (e : ρ[i]? = some (some d)) :
    ∃ v fp, σ[i]? = some (some v) ∧ Own K G H kd v fp d ∧ (∀ a, a ∈ fp → Γ.H0 a = none ∧ G a = none) ∧
      ∀ (G' H1 H' : Hp) (v' : V) (fp' : List Addr) (d' : PyData), Stp G H G' H1 → (∀ a, a ∈ fp → G' a = none) → (kd.isL = true ∨ v' = v) → Own K G' H' kd v' fp' d' → (∀ a, a ∉ fp → H1 a ≠ none → H' a = H1 a) → (∀ a, a ∈ fp' → a ∈ fp ∨ (H a = none ∧ G' a = none)) → Rep K Γ G' H' O (σ.set i (some v')) (ρ.set i (some d')) := by
  obtain ⟨fq, h1, h2⟩ := R.ow
  obtain ⟨v, e1, o, n⟩ := h1 i kd d hi e
  have hlen : i < ρ.length := (List.getElem?_eq_some_iff.mp e).1
  refine ⟨v, fq i, e1, o, n, fun G' H1 H' v' fp' d' s gn hk o' kp new => ?_⟩
  have R' := R.stp s
  have keep : ∀ a u, a ∉ fq i → H1 a = some u → H' a = some u := fun a u ha q => by rw [kp a ha (by rw [q]; exact fun z => nomatch z)]; exact q
  refine ⟨⟨fun a u q => keep a u (fun z => ?_) (R'.base.hh a u q), R'.base.gg, fun a u q => keep a u (fun z => ?_) (R'.base.gh a u q), R'.base.sep⟩, by rw [List.length_set, List.length_set]; exact R.len, fun j d2 hj e2 => ?_, ?_, fun j k w m => ?_, R.uq⟩
  · rw [(n a z).1] at q; cases q
  · rw [gn a z] at q; cases q
  · have hne : i ≠ j := fun z => nin_of hj (kd := kd) (by rw [← z]; exact hi)
    rw [List.getElem?_set_ne hne] at e2
    rw [List.getElem?_set_ne hne]
    exact R'.fz j d2 hj e2
  · refine ⟨fpN O ρ fq i fp', fun j k d2 hj e2 => ?_, fun j j' a hne ha hb => ?_⟩
    · by_cases hji : j = i
      · subst hji
        rw [List.getElem?_set_self hlen] at e2
        cases e2
        have ek := R.uq j k kd hj hi
        subst ek
        refine ⟨v', List.getElem?_set_self (by rw [R.len]; exact hlen), by rw [fpN_self]; exact o', fun a ha => ?_⟩
        rw [fpN_self] at ha
        rcases new a ha with z | ⟨z, z'⟩
        · exact ⟨(n a z).1, gn a z⟩
        · exact ⟨R.base.hh.free z, z'⟩
      · rw [List.getElem?_set_ne (Ne.symm hji)] at e2
        obtain ⟨_, f1, f2, f3⟩ := h1 j k d2 hj e2
        refine ⟨_, (List.getElem?_set_ne (Ne.symm hji)).trans f1, ?_, fun a ha => ?_⟩
        · rw [fpN_live hji hj e2]
          refine (f2.stp s).frame (Same.refl _) fun a ha => kp a (h2 j i a hji ha) ((f2.stp s).here a ha)
        · rw [fpN_live hji hj e2] at ha
          exact ⟨(f3 a ha).1, s.sep a (f2.here a ha) (f3 a ha).2⟩
    · have alive : ∀ {q : Nat}, q ≠ i → a ∈ fpN O ρ fq i fp' q → a ∈ fq q ∧ H a ≠ none := fun {q} hq h => by
        obtain ⟨z, k, d', m, e⟩ := fpN_mem hq h
        obtain ⟨_, _, o', _⟩ := h1 q k d' m e
        exact ⟨z, o'.here a z⟩
      have cross : ∀ {q : Nat}, q ≠ i → a ∈ fp' → a ∈ fq q → H a ≠ none → False := fun {q} hq ha' hb' hh => by
        rcases new a ha' with z | ⟨z, _⟩
        · exact h2 q i a hq hb' z
        · exact hh z
      by_cases hj : j = i
      · have hj' : j' ≠ i := fun z => hne (hj.trans z.symm)
        subst hj
        rw [fpN_self] at ha
        obtain ⟨b1, b2⟩ := alive hj' hb
        exact cross hj' ha b1 b2
      · obtain ⟨a1, a2⟩ := alive hj ha
        by_cases hj' : j' = i
        · subst hj'
          rw [fpN_self] at hb
          exact cross hj hb a1 a2
        · exact h2 j j' a hne a1 (alive hj' hb).1
  · obtain ⟨p1, p2, p3⟩ := R.par j k w m
    refine ⟨p1, p2, ?_⟩
    by_cases hji : j = i
    · subst hji
      have ek := R.uq j k kd p1 hi
      subst ek
      rcases hk with hk | hk
      · rw [hk] at p2; cases p2
      · rw [e1] at p3
        cases p3
        rw [hk]
        exact List.getElem?_set_self (by rw [R.len]; exact hlen)
    · rw [List.getElem?_set_ne (Ne.symm hji)]; exact p3
theorem set_self {α : Type} {l : List α} {i : Nat} {x : α} (h : l[i]? = some x) : l.set i x = l := by
  apply List.ext_getElem?
  intro k
  by_cases e : i = k
  · subst e; rw [List.getElem?_set_self (List.getElem?_eq_some_iff.mp h).1, h]
  · rw [List.getElem?_set_ne e]
/-- a thing of the def's own is changed -/
theorem Rep.change {K : PySem.W.Frag} {Γ : Gh} {G H : Hp} {σ : L2.St} {ρ : Dv} {i : Nat} {kd : Kd} {d : PyData} (R : Rep K Γ G H O σ ρ) (hi : (i, kd) ∈ O) (e : ρ[i]? = some (some d)) :
    ∃ v fp, σ[i]? = some (some v) ∧ Own K G H kd v fp d ∧ (∀ a, a ∈ fp → Γ.H0 a = none ∧ G a = none) ∧
      ∀ (G' H1 H' : Hp) (fp' : List Addr) (d' : PyData), Stp G H G' H1 → (∀ a, a ∈ fp → G' a = none) → Own K G' H' kd v fp' d' → (∀ a, a ∉ fp → H1 a ≠ none → H' a = H1 a) → (∀ a, a ∈ fp' → a ∈ fp ∨ (H a = none ∧ G' a = none)) → Rep K Γ G' H' O σ (ρ.set i (some d')) := by
  obtain ⟨v, fp, h1, h2, h3, ch⟩ := R.changeV hi e
  refine ⟨v, fp, h1, h2, h3, fun G' H1 H' fp' d' s gn o kp new => ?_⟩
  have := ch G' H1 H' v fp' d' s gn (.inr rfl) o kp new
  rwa [set_self h1] at this
theorem seto_imp {i : Nat} {te : TE} {D : Ends} {σ : L2.St} {H : Hp} (hl : lsl i O = true) (hO : O' = insK i .lst O) (w : ∀ Q, RO X.K O L σ H Q → te σ H Q) (h : RS X.K W O O' OL (setO i L) D σ H) : tAsg te (gName i) D σ H := by
  obtain ⟨Γ, G, ρ, r, R, er, f⟩ := h
  obtain ⟨d, e1, rfl⟩ := setS_some er
  unfold lstF at e1
  cases q : L ρ with
  | none => rw [q] at e1; cases e1
  | some ds =>
    rw [q] at e1; cases e1
    exact w _ ⟨Γ, G, ρ, ds, R, q, fun p xs G' H' s n g hp da => f _ G' H' (by rw [hO]; exact R.storeK s hl (.lst hp da) fun a ha => by rw [List.mem_singleton.mp ha]; exact ⟨n, g⟩)⟩
theorem s_setO {i : Nat} {x : Str} (hN : X.N.Nodup) (hi : X.N[i]? = some x) (hx : Loc X.env.scope x) (hl : lsl i O = true) (hO : O' = insK i .lst O) (he : PE X e (RO X.K O L)) (hs : swapsWith e (some (.Name x pos')) pos.line X.env = pure false := by rfl) (hf : X.fn x = true ∨ X.env.scope.names.lookup x = some .local := by first | exact .inl rfl | exact .inr rfl | assumption) :
    PS X (.Assign [.Name x pos'] e pos) (RS X.K W O O' OL (setO i L)) := ps_imp (ps_set hN hi hx he hs hf) fun D σ H h => seto_imp hl hO (fun Q h' => h') h
/-- x = [e for ..] on one line, x a plain local -/
theorem s_setLc {i : Nat} {y : Str} {py spos : Pos} {elt iter tg : Expr} {ifs : List Expr} {scope : Scope} {own : List (Str × Nat)} {Fs : Fl} {us : List Nat} {g : TG} {tgt : Tgt} {C : Dv → Option Bool} {E : Fd} (hc : X.calm = true) (hN : X.N.Nodup) (hy : X.N[i]? = some y) (hyl : X.env.scope.names.lookup y = some .local) (hO : nin i O = true)
    (hsw : swapsWith (.ListComp elt [⟨tg, iter, ifs, 0⟩] scope pos) (some (.Name y py)) spos.line X.env = pure true) (hi : PI X tg iter (RI X.K O Fs)) (ok : BlkOk X.N X.env.scope scope own)
    (htg : TgD X.K O g tgt us) (hus : ∀ x, x ∈ us → x ∈ own.map (·.2)) (hvs : (own.map (·.2)).all (fun i => nin i O) = true)
    (hg : ∀ (s : Shared) (H : Hp) (C : Addr) (cl : List (Str × Addr)) (fp : List Addr), PG (X.blk s H scope (compEnvC scope cl C X.env) fp) tg g) (ht : ∀ (s : Shared) (H : Hp) (C' : Addr) (cl : List (Str × Addr)) (fp : List Addr), PTs (X.blk s H scope (compEnvC scope cl C' X.env) fp) ifs (RT X.K O C))
    (he : ∀ (s : Shared) (H : Hp) (C : Addr) (cl : List (Str × Addr)) (fp : List Addr), PE (X.blk s H scope (compEnvC scope cl C X.env) fp) elt (RD X.K O E)) (hs : ∀ x, foldedSetIterable iter X.env x = pure x := by intro _; rfl) :
    PS X (.Assign [.Name y py] (.ListComp elt [⟨tg, iter, ifs, 0⟩] scope pos) spos) (RS X.K W O O OL (setS i (lstF (lcF Fs (own.map (·.2)) tgt C E)))) :=
  ps_imp (ps_setLc hc hN hy hyl hsw hi ok hg ht he hs) fun D σ H h => by
    obtain ⟨Γ, G, ρ, r, R, er, f⟩ := h
    obtain ⟨d, e1, rfl⟩ := setS_some er
    unfold lstF at e1
    cases q : lcF Fs (own.map (·.2)) tgt C E ρ with
    | none => rw [q] at e1; cases e1
    | some ds =>
      rw [q] at e1; cases e1
      refine lc_imp htg hus hvs ⟨Γ, G, ρ, ds, R, q, fun p xs G' H' s n g hp da => ?_⟩
      have s' := s.frz n g hp
      exact f _ _ H' ((R.stp s').store hO (.lst (SqL.of upd_same) (dpAll_mono (fun a u z => by rw [upd_ne (ne_of_none z g)]; exact z) ds xs da)))
theorem s_setLcO {i : Nat} {y : Str} {py spos : Pos} {elt iter tg : Expr} {ifs : List Expr} {scope : Scope} {own : List (Str × Nat)} {Fs : Fl} {us : List Nat} {g : TG} {tgt : Tgt} {C : Dv → Option Bool} {E : Fd} (hc : X.calm = true) (hN : X.N.Nodup) (hy : X.N[i]? = some y) (hyl : X.env.scope.names.lookup y = some .local) (hl : lsl i O = true) (hO : O' = insK i .lst O)
    (hsw : swapsWith (.ListComp elt [⟨tg, iter, ifs, 0⟩] scope pos) (some (.Name y py)) spos.line X.env = pure true) (hi : PI X tg iter (RI X.K O Fs)) (ok : BlkOk X.N X.env.scope scope own)
    (htg : TgD X.K O g tgt us) (hus : ∀ x, x ∈ us → x ∈ own.map (·.2)) (hvs : (own.map (·.2)).all (fun i => nin i O) = true)
    (hg : ∀ (s : Shared) (H : Hp) (C : Addr) (cl : List (Str × Addr)) (fp : List Addr), PG (X.blk s H scope (compEnvC scope cl C X.env) fp) tg g) (ht : ∀ (s : Shared) (H : Hp) (C' : Addr) (cl : List (Str × Addr)) (fp : List Addr), PTs (X.blk s H scope (compEnvC scope cl C' X.env) fp) ifs (RT X.K O C))
    (he : ∀ (s : Shared) (H : Hp) (C : Addr) (cl : List (Str × Addr)) (fp : List Addr), PE (X.blk s H scope (compEnvC scope cl C X.env) fp) elt (RD X.K O E)) (hs : ∀ x, foldedSetIterable iter X.env x = pure x := by intro _; rfl) :
    PS X (.Assign [.Name y py] (.ListComp elt [⟨tg, iter, ifs, 0⟩] scope pos) spos) (RS X.K W O O' OL (setO i (lcF Fs (own.map (·.2)) tgt C E))) :=
  ps_imp (ps_setLc hc hN hy hyl hsw hi ok hg ht he hs) fun D σ H h => seto_imp hl hO (fun Q h' => lc_imp htg hus hvs h') h
/-! ### x.append(e), x an own list -/
def appS (i : Nat) (F : Fd) : Bs := fun ρ => match dvGet ρ i, F ρ with
  | some (.list ds), some d => if ds.length < 16777216 then some (.nx (ρ.set i (some (.list (ds ++ [d]))))) else none
  | _, _ => none
theorem appS_some {i : Nat} {ρ : Dv} {r : Res} (h : appS i F ρ = some r) : ∃ ds d, dvGet ρ i = some (.list ds) ∧ F ρ = some d ∧ ds.length < 16777216 ∧ r = .nx (ρ.set i (some (.list (ds ++ [d])))) := by
  unfold appS at h
  split at h
  · rename_i ds d e1 e2
    split at h
    · cases h; exact ⟨ds, d, e1, e2, by assumption, rfl⟩
    · cases h
  · cases h
theorem s_app {y : Str} {apos cpos : Pos} (i : Nat) (hi : (i, Kd.lst) ∈ O)
    (hb : PE X (.Call (.Attribute (.Name y pos') "append" apos) [e] [] cpos) (tBM X.K "list" rAppend (tVar i) (tCons (RD X.K O F) tNil)))
    (hs : swapsWith (.Call (.Attribute (.Name y pos') "append" apos) [e] [] cpos) none pos.line X.env = pure false := by rfl) :
    PS X (.Expr (.Call (.Attribute (.Name y pos') "append" apos) [e] [] cpos) pos) (RS X.K W O O OL (appS i F)) := ps_imp (ps_expr hb hs) fun D σ H ⟨Γ, G, ρ, r, R, er, f⟩ => by
  obtain ⟨ds, d, e1, e2, hl, rfl⟩ := appS_some er
  have e1' := dvGet_some e1
  obtain ⟨w, fp, f2, o, n, ch⟩ := R.change hi e1'
  cases o with
  | lst hp da =>
    rename_i p xs
    refine ⟨_, f2, .inl ⟨rfl, _, SqL.of hp⟩, Γ, G, ρ, d, R, e2, fun v G' H' s dv => ?_⟩
    have h5 := s.hh _ _ hp
    have g5 := s.sep p (by rw [hp]; exact fun z => nomatch z) (n p (by simp)).2
    refine ⟨p, xs, v, rfl, rfl, h5, by rw [da.length, line_eq]; exact hl, ?_⟩
    refine f σ G' _ (ch G' H' _ [p] _ s (fun a ha => by rw [List.mem_singleton.mp ha]; exact g5) (.lst upd_same ((dpAll_mono s.gg _ _ da).append (.cons dv .nil))) (fun a ha _ => upd_ne fun z => ha (by simp [z])) fun a ha => .inl ha)

/-! ### loops -/
/-- the base heap with the frozen part -/
def hun (H0 G : Hp) : Hp := fun a => match H0 a with | some o => some o | none => G a
theorem hun_some {H0 G : Hp} {a : Addr} {o : HO} (h : hun H0 G a = some o) : H0 a = some o ∨ (H0 a = none ∧ G a = some o) := by
  unfold hun at h
  cases q : H0 a with
  | none => rw [q] at h; exact .inr ⟨rfl, h⟩
  | some u => rw [q] at h; exact .inl h
def Gh.at (Γ : Gh) (G : Hp) : Gh := ⟨hun Γ.H0 G, G, Γ.op⟩
theorem Rep.rebase {K : PySem.W.Frag} {Γ : Gh} {G H : Hp} {σ : L2.St} {ρ : Dv} (R : Rep K Γ G H O σ ρ) : Rep K (Γ.at G) G H O σ ρ := by
  refine ⟨⟨fun a o e => ?_, Same.refl _, R.gh, fun _ _ e => e⟩, R.len, R.fz, ?_, R.par, R.uq⟩
  · rcases hun_some e with e | ⟨_, e⟩
    · exact R.base.hh a o e
    · exact R.gh a o e
  · obtain ⟨fp, h1, h2⟩ := R.ow
    refine ⟨fp, fun i kd d hi e => ?_, h2⟩
    obtain ⟨v, e1, o, n⟩ := h1 i kd d hi e
    exact ⟨v, e1, o, fun a ha => ⟨by show hun Γ.H0 G a = none; unfold hun; rw [(n a ha).1]; exact (n a ha).2, (n a ha).2⟩⟩
theorem base_back {H0 G0 G H G' H' : Hp} (b : Stp G0 H0 G H) (s : Stp G (hun H0 G) G' H') : Stp G0 H0 G' H' := by
  refine ⟨fun a o e => s.hh a o (by unfold hun; rw [e]), b.gg.trans s.gg, s.gh, fun a n e => ?_⟩
  refine s.sep a (fun z => ?_) (b.sep a n e)
  unfold hun at z
  cases q : H0 a with
  | none => exact n q
  | some u => rw [q] at z; cases z
theorem Rep.back {K : PySem.W.Frag} {Γ : Gh} {G H G' H' : Hp} {σ : L2.St} {ρ : Dv} (b : Stp Γ.G0 Γ.H0 G H) (R : Rep K (Γ.at G) G' H' O σ ρ) : Rep K Γ G' H' O σ ρ := by
  refine ⟨base_back b R.base, R.len, R.fz, ?_, R.par, R.uq⟩
  obtain ⟨fp, h1, h2⟩ := R.ow
  refine ⟨fp, fun i kd d hi e => ?_, h2⟩
  obtain ⟨v, e1, o, n⟩ := h1 i kd d hi e
  refine ⟨v, e1, o, fun a ha => ⟨?_, (n a ha).2⟩⟩
  have z : hun Γ.H0 G a = none := (n a ha).1
  unfold hun at z
  cases q : Γ.H0 a with
  | none => rfl
  | some u => rw [q] at z; cases z
def forGo (tgt : Tgt) (B : Bs) : List PyData → Dv → Option Res
  | [], ρ => some (.nx ρ)
  | d :: ds, ρ => (tgt d ρ).bind fun ρ1 => match B ρ1 with
    | some (.nx ρ') => forGo tgt B ds ρ'
    | some (.ct ρ') => forGo tgt B ds ρ'
    | some (.brk ρ') => some (.nx ρ')
    | some (.ret d ρ') => some (.ret d ρ')
    | some (.exc c ρ') => some (.exc c ρ')
    | none => none
def forS (Fs : Fl) (tgt : Tgt) (B : Bs) : Bs := fun ρ => (Fs ρ).bind fun ds => forGo tgt B ds ρ
theorem s_for {tg iter : Expr} {Fs : Fl} {g : TG} {tgt : Tgt} {us : List Nat} (hp : PassesOwn (model X.prog X.w) X.A X.env X.xe) (hc : X.calm = true) (hi : PI X tg iter (RI X.K O Fs)) (htg : TgD X.K O g tgt us) (hg : PG X tg g) (hb : PSs X body (RS X.K W O O O B))
    (hs : ∀ x, foldedSetIterable iter X.env x = pure x := by intro _; rfl) : PS X (.For tg iter body [] pos) (RS X.K W O O OL (forS Fs tgt B)) := ps_imp (ps_for hp hc hi hg hb hs) fun D σ H ⟨Γ, G, ρ, r, R, er, f⟩ => by
  unfold forS at er
  cases e1 : Fs ρ with
  | none => rw [e1] at er; cases er
  | some ds =>
    rw [e1] at er
    have er : forGo tgt B ds ρ = some r := er
    refine ⟨Γ, G, ρ, ds, R, e1, fun J G1 H1 s1 it len => ?_⟩
    have bs : Stp Γ.G0 Γ.H0 G1 H1 := (R.stp s1).base
    refine ⟨fun i m σ2 H2 => m = ds.length - i ∧ i ≤ ds.length ∧ ∃ G2 ρ2, Rep X.K (Γ.at G1) G2 H2 O σ2 ρ2 ∧ forGo tgt B (ds.drop i) ρ2 = some r, ⟨ds.length, by simp, Nat.zero_le _, G1, ρ, (R.stp s1).rebase, er⟩, ?_⟩
    rintro i m σ2 H2 ⟨rfl, hle, G2, ρ2, R2, el⟩
    by_cases hlt : i < ds.length
    · refine .inr ⟨it.go i G2 H2 R2.base.gg R2.gh hlt, fun σ' H' => i + 1 ≤ ds.length ∧ ∃ G2 ρ2, Rep X.K (Γ.at G1) G2 H' O σ' ρ2 ∧ forGo tgt B (ds.drop (i + 1)) ρ2 = some r, fun σ' H' w => ⟨ds.length - (i + 1), by omega, rfl, w⟩, fun x H3 y => ?_⟩
      obtain ⟨G3, d, s3, hd, dv⟩ := it.yl i G2 H2 x H3 R2.base.gg R2.gh hlt y
      have ed : ds.drop i = d :: ds.drop (i + 1) := by
        rw [List.drop_eq_getElem_cons hlt]
        congr 1
        rw [List.getElem?_eq_getElem hlt] at hd
        exact Option.some.inj hd
      rw [ed] at el
      simp only [forGo] at el
      cases e2 : tgt d ρ2 with
      | none => rw [e2] at el; cases el
      | some ρ3 =>
        rw [e2, Option.bind_some] at el
        refine htg _ G3 H3 _ _ _ x d _ (R2.stp s3) dv e2 fun σ3 R3 _ => ?_
        cases e3 : B ρ3 with
        | none => rw [e3] at el; cases el
        | some z =>
          rw [e3] at el
          refine ⟨_, G3, ρ3, z, R3, e3, ?_⟩
          cases z with
          | nx ρ' => exact fun σ' G' H' R' => ⟨hlt, G', ρ', R', el⟩
          | ct ρ' => exact fun σ' G' H' R' => ⟨hlt, G', ρ', R', el⟩
          | brk ρ' => cases el; exact fun σ' G' H' R' => f σ' G' H' (Rep.back bs R')
          | ret d' ρ' => cases el; exact fun v σ' G' H' Or R' dv => f v σ' G' H' Or (Rep.back bs R') dv
          | exc c ρ' => cases el; exact fun σ' G' H' Or R' => f σ' G' H' Or (Rep.back bs R')
    · have hi' : i = ds.length := by omega
      rw [hi', List.drop_length] at el
      cases el
      exact .inl ⟨by rw [hi']; exact it.st G2 H2 R2.base.gg R2.gh, f σ2 G2 H2 (Rep.back bs R2)⟩
def whGo (C : Dv → Option Bool) (B : Bs) : Nat → Dv → Option Res
  | 0, _ => none
  | n + 1, ρ => match C ρ with
    | some false => some (.nx ρ)
    | some true => match B ρ with
      | some (.nx ρ') => whGo C B n ρ'
      | some (.ct ρ') => whGo C B n ρ'
      | some (.brk ρ') => some (.nx ρ')
      | some (.ret d ρ') => some (.ret d ρ')
      | some (.exc c ρ') => some (.exc c ρ')
      | none => none
    | none => none
theorem s_while {c : Expr} (n : Nat) (hp : PassesOwn (model X.prog X.w) X.A X.env X.xe) (hc : PT X c (RT X.K O C)) (hb : PSs X body (RS X.K W O O O B)) : PS X (.While c body [] pos) (RS X.K W O O OL (whGo C B n)) := ps_imp (ps_while hp hc hb) fun D σ H ⟨Γ, G, ρ, r, R, er, f⟩ => by
  refine ⟨fun m σ H => ∃ G ρ, Rep X.K Γ G H O σ ρ ∧ whGo C B m ρ = some r, ⟨n, G, ρ, R, er⟩, ?_⟩
  rintro m σ2 H2 ⟨G2, ρ2, R2, el⟩
  cases m with
  | zero => cases el
  | succ m =>
    simp only [whGo] at el
    cases e1 : C ρ2 with
    | none => rw [e1] at el; cases el
    | some b =>
      rw [e1] at el
      refine ⟨Γ, G2, ρ2, b, R2, e1, fun G3 H3 s3 => ?_⟩
      cases b with
      | false => cases el; exact iteF (f σ2 G3 H3 (R2.stp s3))
      | true =>
        refine iteT ⟨fun σ' H' => ∃ G ρ, Rep X.K Γ G H' O σ' ρ ∧ whGo C B m ρ = some r, fun σ' H' w => ⟨m, Nat.lt_succ_self m, w⟩, ?_⟩
        cases e3 : B ρ2 with
        | none => rw [e3] at el; cases el
        | some z =>
          rw [e3] at el
          refine ⟨Γ, G3, ρ2, z, R2.stp s3, e3, ?_⟩
          cases z with
          | nx ρ' => exact fun σ' G' H' R' => ⟨G', ρ', R', el⟩
          | ct ρ' => exact fun σ' G' H' R' => ⟨G', ρ', R', el⟩
          | brk ρ' => cases el; exact fun σ' G' H' R' => f σ' G' H' R'
          | ret d' ρ' => cases el; exact fun v σ' G' H' Or R' dv => f v σ' G' H' Or R' dv
          | exc c ρ' => cases el; exact fun σ' G' H' Or R' => f σ' G' H' Or R'

/-! ### defs -/
def spD (K : PySem.W.Frag) (f : List PyData → Option PyData) : Sp := fun vs H Q _ => ∃ G ds d, Same G H ∧ DpAll K G vs ds ∧ f ds = some d ∧ ∀ v G' H', Stp G H G' H' → Dp K G' v d → Q v H'
def env0 (n : Nat) (ds : List PyData) : Dv := ds.map some ++ List.replicate (n - ds.length) none
/-- n slots, k parameters -/
def runF (n k : Nat) (B : Bs) (ds : List PyData) : Option PyData := if ds.length = k then (match B (env0 n ds) with | some (.ret d _) => some d | some (.nx _) => some .none | _ => none) else none
theorem rep_start {K : PySem.W.Frag} {G H : Hp} {N : List Str} {vs : List V} {ds : List PyData} (gh : Same G H) (da : DpAll K G vs ds) (hl : vs.length ≤ N.length) : Rep K ⟨H, G, []⟩ G H [] (L2.start N vs) (env0 N.length ds) := by
  refine ⟨Stp.refl gh, ?_, fun i d _ e => ?_, ⟨fun _ => [], (fun i kd d hi => nomatch hi), (fun i j a _ ha => nomatch ha)⟩, (fun i kd v m => nomatch m), (fun i k k' m => nomatch m)⟩
  · unfold L2.start env0
    simp only [List.length_append, List.length_map, List.length_replicate, da.length]
  · unfold env0 at e
    by_cases h : i < ds.length
    · rw [List.getElem?_append_left (by rw [List.length_map]; exact h), List.getElem?_map] at e
      cases q : ds[i]? with
      | none => rw [q] at e; cases e
      | some d' =>
        rw [q] at e; cases e
        obtain ⟨v, h1, h2⟩ := da.get q
        refine ⟨v, ?_, h2⟩
        unfold L2.start
        rw [List.getElem?_append_left (by rw [List.length_map, da.length]; exact h), List.getElem?_map, h1]
        rfl
    · rw [List.getElem?_append_right (by rw [List.length_map]; omega), List.getElem?_replicate] at e
      split at e <;> cases e
theorem runF_some {n k : Nat} {B : Bs} {ds : List PyData} {d : PyData} (h : runF n k B ds = some d) : ds.length = k ∧ ∃ r, B (env0 n ds) = some r ∧ ((∃ ρ, r = .ret d ρ) ∨ (∃ ρ, r = .nx ρ) ∧ d = .none) := by
  unfold runF at h
  split at h
  · refine ⟨by assumption, ?_⟩
    split at h
    · cases h; exact ⟨_, by assumption, .inl ⟨_, rfl⟩⟩
    · cases h; exact ⟨_, by assumption, .inr ⟨⟨_, rfl⟩, rfl⟩⟩
    · cases h
  · cases h
theorem fn_d {P : Program} {w : World} {K : PySem.W.Frag} {mg : Str → Option Value} {base : Heap} {x qual : Str} {st : Stmt} {f : Addr} {fd : FuncData} {N ps : List Str} {k n np : Nat} {B : Bs} (F : Fun K x qual st f fd) (S : FnScope N ps (defScope st)) (hn : N.length = n) (hnp : ps.length = np) (hle : np ≤ n)
    (hb : ∀ (cdv : Value) (A : Around) (outer : List Env) (s : Shared) (H : Hp) (E : XK), Room k (A.deeper (envOfC qual (defScope st) s.heap.objs.size f cdv)) →
      ∃ O' OL, PSs (cxOf CX0 P w K mg base N qual (defScope st) f cdv A outer s H E).nox (defBody st) (RS K E0 [] O' OL B)) : FnOk P w K mg base CX0 (k + 1) f fd ps (spD K (runF n np B)) := by
  refine F.ok S (fun vs H Q E h => ?_) (fun cdv A outer s H vs Q E hr h => ?_)
  · obtain ⟨G, ds, d, gh, da, ef, _⟩ := h
    rw [da.length, (runF_some ef).1, hnp]
  · obtain ⟨G, ds, d, gh, da, ef, q⟩ := h
    obtain ⟨h1, r, h2, h3⟩ := runF_some ef
    obtain ⟨O', OL, hbody⟩ := hb cdv A outer s H E hr
    refine ⟨_, hbody, ⟨H, G, []⟩, G, env0 n ds, r, ?_, h2, ?_⟩
    · rw [← hn]
      exact rep_start gh da (by rw [da.length, h1]; omega)
    · rcases h3 with ⟨ρ, rfl⟩ | ⟨⟨ρ, rfl⟩, rfl⟩
      · exact fun v σ G' H' Or R dv => q v G' H' R.base dv
      · exact fun σ G' H' R => q _ G' H' R.base .non
theorem FnD.imp {P : Program} {w : World} {K : PySem.W.Frag} {mg : Str → Option Value} {base : Heap} {CX : CXT} {k : Nat} {f : Addr} {fd : FuncData} {ps : List Str} {g g' : List PyData → Option PyData} (F : FnOk P w K mg base CX k f fd ps (spD K g)) (h : ∀ ds d, g' ds = some d → g ds = some d) : FnOk P w K mg base CX k f fd ps (spD K g') :=
  F.imp fun vs H Q E ⟨G, ds, d, gh, da, ef, q⟩ => ⟨G, ds, d, gh, da, h ds d ef, q⟩
section
variable {f : Addr} {fd : FuncData} {ps : List Str} {g : List PyData → Option PyData} {k : Nat} {x : Str} {p : Pos} {es : List Expr}
theorem d_call {CX : CXT} {E : XK} (G : FnOk X.prog X.w X.K X.mg X.base CX k f fd ps (spD X.K g)) (hr : Room k X.A) (hg : Gl X x) (hm : X.mg x = some (.ref f)) (hk : PySem.W.keepIn X.K (.ref f) = true) (hb : Binds X.K fd ps []) (hx : Passes CX X E)
    (ha : PA X (e :: es) (RA X.K O L)) (hdb : (x == ("__debug__" : Str)) = false := by decide) (he : starEach (e :: es) X.env = (false, eval e X.env) :: starEach es X.env := by rfl) (hpl : (backTo pos (starEach es X.env)).any (·.1) = false := by rfl) :
    PE X (.Call (.Name x p) (e :: es) [] pos) (RD X.K O (fL g L)) := pe_imp (pe_call G hr hg hm hk hb .nil hx ha hdb he hpl) fun σ H Q ⟨Γ, G, ρ, d, R, ef, q⟩ => by
  obtain ⟨ds, e1, e2⟩ := fL_some ef
  exact ⟨Γ, G, ρ, ds, R, e1, fun vs G1 H1 s1 da => ⟨G1, ds, d, s1.gh, by rw [List.append_nil]; exact da, e2, fun v G' H' s dv => q v G' H' (s1.trans s) dv⟩⟩
end
end
end Dat
open PySem PySem.Spec PyProof.Rows L2
namespace Dat
/-! ### what stands at the top -/
structure Here (K : PySem.W.Frag) (mg : Str → Option Value) (x : Str) (st : Stmt) (ps : List Str) (f : Addr) (fd : FuncData) : Prop where
  fn : Fun K x x st f fd
  at_ : mg x = some (.ref f)
  bd : Binds K fd ps []
/-- a def that is known by its function over data -/
def Kn (P : Program) (w : World) (K : PySem.W.Frag) (mg : Str → Option Value) (base : Heap) (x : Str) (k : Nat) (ps : List Str) (g : List PyData → Option PyData) : Prop :=
  ∃ f fd, FnOk P w K mg base CX0 k f fd ps (spD K g) ∧ mg x = some (.ref f) ∧ PySem.W.keepIn K (.ref f) = true ∧ Binds K fd ps []
section
variable {P : Program} {w : World} {K : PySem.W.Frag} {mg : Str → Option Value} {base : Heap} {x : Str} {st : Stmt} {ps : List Str} {f : Addr} {fd : FuncData} {k : Nat} {g g' : List PyData → Option PyData}
theorem kd_of (h : Here K mg x st ps f fd) (F : FnOk P w K mg base CX0 k f fd ps (spD K g)) : Kn P w K mg base x k ps g := ⟨f, fd, F, h.at_, h.fn.kp, h.bd⟩
theorem Kn.imp (h : Kn P w K mg base x k ps g) (q : ∀ ds d, g' ds = some d → g ds = some d) : Kn P w K mg base x k ps g' := by
  obtain ⟨f, fd, F, a, b, c⟩ := h
  exact ⟨f, fd, FnD.imp F q, a, b, c⟩
theorem Kn.mono {j : Nat} (h : Kn P w K mg base x k ps g) (hj : k ≤ j) : Kn P w K mg base x j ps g := by
  obtain ⟨f, fd, F, a, b, c⟩ := h
  exact ⟨f, fd, F.mono hj, a, b, c⟩
/-- a def of which nothing is said -/
theorem Kn.zero (h : Here K mg x st ps f fd) : Kn P w K mg base x k ps (fun _ => none) :=
  ⟨f, fd, ⟨fun vs H Q E q => (by obtain ⟨_, _, _, _, _, z, _⟩ := q; cases z), fun A outer s H args us vs Q E hr he hb hv q => (by obtain ⟨_, _, _, _, _, z, _⟩ := q; cases z)⟩, h.at_, h.fn.kp, h.bd⟩
theorem hu200 {A : Around} (hr : Room k A) : A.units + 200 < cLine := by have := hr.un; omega
theorem here_mk {h : Heap} (X : K.In h) (G : h.Ns mainGlobals mg) {oc : Value} {od an : Option Addr} {osl : Array (Option Value)} {kV doc pm cdv ct : Value}
    (a : PySem.W.nsIn K mainGlobals x = some (some (.ref f))) (l : K.lookup f = some ⟨oc, od, .func (PySem.W.fnOf x x (defArgs st) (defBody st) (defScope st) .none kV doc pm an cdv ct), osl⟩) (c : PySem.W.codeIn K cdv x = true) (k : PySem.W.keepIn K (.ref f) = true)
    (b : ∀ (kV doc pm : Value) (an : Option Addr) (cdv ct : Value) (us : List Value), us.length = ps.length → bindArgs (PySem.W.fnOf x x (defArgs st) (defBody st) (defScope st) .none kV doc pm an cdv ct) ⟨us, []⟩ = pure (ps.zip us)) :
    Here K mg x st ps f (PySem.W.fnOf x x (defArgs st) (defBody st) (defScope st) .none kV doc pm an cdv ct) :=
  have F : Fun K x x st f (PySem.W.fnOf x x (defArgs st) (defBody st) (defScope st) .none kV doc pm an cdv ct) := fun_mk (st := st) l c k
  ⟨F, PySem.W.mg_of X G a, F.binds b⟩
end
section
variable {X : Cx} {e a b : Expr} {es : List Expr} {pos p : Pos} {O : Os} {F F' : Fd} {L : Fl} {ps : List Str} {g : List PyData → Option PyData} {k j : Nat} {x : Str}
theorem d_callK (D : Kn X.prog X.w X.K X.mg X.base x k ps g) (hr : Room j X.A) (hj : k ≤ j) (hx : Passes CX0 X E0) (hg : Gl X x) (ha : PA X (e :: es) (RA X.K O L)) (hdb : (x == ("__debug__" : Str)) = false := by decide)
    (he : starEach (e :: es) X.env = (false, eval e X.env) :: starEach es X.env := by rfl) (hpl : (backTo pos (starEach es X.env)).any (·.1) = false := by rfl) : PE X (.Call (.Name x p) (e :: es) [] pos) (RD X.K O (fL g L)) := by
  obtain ⟨f, fd, G, a, b, c⟩ := D
  exact d_call (G.mono hj) hr hg a b c hx ha hdb he hpl
/-- the items of a list or of a tuple -/
def seqA (F : Fd) : Fl := fun ρ => (F ρ).bind fun d => match d with | .list xs => some xs | .tuple xs => some xs | _ => none
theorem i_seq {tg : Expr} (h : PE X e (RD X.K O F)) : PI X tg e (RI X.K O (seqA F)) := ⟨fun pins s σ H R I ⟨Γ, G, ρ, ds, Rp, ef, q⟩ => by
  unfold seqA at ef
  cases e1 : F ρ with
  | none => rw [e1] at ef; cases ef
  | some d =>
    rw [e1] at ef
    cases d with
    | list xs => cases ef; exact (i_list h).run pins s σ H R I ⟨Γ, G, ρ, ds, Rp, by unfold seqF; rw [e1]; rfl, q⟩
    | tuple xs => cases ef; exact (i_tup h).run pins s σ H R I ⟨Γ, G, ρ, ds, Rp, by unfold seqT; rw [e1]; rfl, q⟩
    | none => cases ef
    | bool _ => cases ef
    | int _ => cases ef
    | str _ => cases ef
    | dict _ => cases ef⟩
/-- a list's slice, or a tuple's -/
def dSl (d : PyData) (lo hi : Option Int) : Option PyData := match d with
  | .list xs => some (.list (cutD xs lo hi))
  | .tuple xs => if ¬ (HT.sIx xs.length 0 lo = 0 ∧ HT.sIx xs.length xs.length hi = xs.length) then some (.tuple (cutD xs lo hi)) else none
  | _ => none
theorem d_sl {lo hi : Option Expr} {p2 : Pos} {P P' : Dv → Option (Option Int)} (ha : PE X a (RB X.K O F)) (hl : PO X lo (RP X.K O P)) (hu : PO X hi (RP X.K O P')) : PE X (.Subscript a (.Slice lo hi none p2) pos) (RD X.K O (slF dSl F P P')) :=
  ⟨fun pins s σ H Q I ⟨Γ, G, ρ, d, R, ef, q⟩ => by
    obtain ⟨dx, lo, hi, e1, e2, e3, e4⟩ := slF_some ef
    cases dx with
    | list xs =>
      refine (o_d (o_slL ha hl hu)).run pins s σ H Q I ⟨Γ, G, ρ, d, R, ?_, q⟩
      unfold lstF slF
      rw [e1, e2, e3]
      exact e4
    | tuple xs =>
      refine (d_slT ha hl hu).run pins s σ H Q I ⟨Γ, G, ρ, d, R, ?_, q⟩
      unfold slF
      rw [e1, e2, e3]
      exact e4
    | none => cases e4
    | bool _ => cases e4
    | int _ => cases e4
    | str _ => cases e4
    | dict _ => cases e4⟩
end
/-- the law's promise, from its function over data -/
theorem law_sp {K : PySem.W.Frag} {f : List PyData → Option PyData} (h : ∀ ns : List Int, ns.length ≤ 63 → f [.list (ns.map .int)] = some (.bool true)) {H : Hp} {a : Addr} {ns : List Int} (hl : ns.length ≤ 63) (hS : SqL K H a (ns.map V.int)) (Q : VK) (E : XK) (hq : ∀ H', Q (.bl true) H') : spD K f [.ref a] H Q E := by
  have da : ∀ ms : List Int, DpAll K H (ms.map V.int) (ms.map PyData.int) := fun ms => by
    induction ms with
    | nil => exact .nil
    | cons m ms ih => exact .cons (.int m) ih
  exact ⟨H, _, _, Same.refl _, .cons (.lst hS (da ns)) .nil, h ns hl, fun v G' H' s dv => by cases dv; exact hq H'⟩
end Dat
open PySem PySem.Spec PyProof.Rows L2
namespace Dat
section
variable {W : XK} {X : Cx} {e a b : Expr} {es : List Expr} {pos pos' p : Pos} {O O' OL : Os} {F F' : Fd} {L : Fl}
/-! ### a module's whole number -/
theorem d_glob {x : Str} {n : Int} (hg : Gl X x) (h : ∃ t, X.mg x = some (.int n t)) (hd : (x == ("__debug__" : Str)) = false := by decide) : PE X (.Name x pos) (RD X.K O (cF (.int n))) := by
  obtain ⟨t, h⟩ := h
  exact pe_imp (pe_glob (v := .int n) hg h ⟨t, rfl⟩ hd) fun σ H Q ⟨Γ, G, ρ, d, R, ef, q⟩ => by
    cases ef; exact q _ G H (Stp.refl R.gh) (.int n)
/-! ### what is only looked at whole -/
def RX (K : PySem.W.Frag) (O : Os) (F : Fd) : TE := fun σ H Q => ∃ Γ G ρ d, Rep K Γ G H O σ ρ ∧ F ρ = some d ∧ ∀ v G' H', Stp G H G' H' → Dp K H' v d → Q v H'
theorem x_b (h : PE X e (RB X.K O F)) : PE X e (RX X.K O F) := pe_imp h fun σ H Q ⟨Γ, G, ρ, d, R, ef, q⟩ => ⟨Γ, G, ρ, d, R, ef, fun v G' H' s b => q v G' H' s (b.dp s.gh)⟩
theorem x_var (i : Nat) (h : PE X e (tVar i)) (hi : lsl i O = true := by rfl) : PE X e (RX X.K O (vF i)) := pe_imp h fun σ H Q ⟨Γ, G, ρ, d, R, ef, q⟩ => by
  obtain ⟨v, h1, h2⟩ := R.bx (i := i) hi ef
  exact ⟨v, h1, q v G H (Stp.refl R.gh) h2⟩
def r2X (K : PySem.W.Frag) (g : PyData → PyData → Option PyData) : R2 := fun x y H Q => ∃ dx dy k, Dp K H x dx ∧ Dp K H y dy ∧ g dx dy = some (.bool k) ∧ Q (.bl k) H
theorem x_dEq (hu : X.A.units + 200 < cLine) : OpR X (compareOp .Eq) (r2X X.K dEq) := by
  intro pins s σ H x y v u Q I rx ry ⟨dx, dy, k, hx, hy, eg, q⟩
  unfold dEq at eg
  split at eg
  · rename_i hs
    cases eg
    obtain ⟨as, r1⟩ := Dp.reads I dx x v hx rx
    obtain ⟨bs, r2⟩ := Dp.reads I dy y u hy ry
    exact SeqAt.eq_plain r1 r2 (dp_plain _ _ hx) (dp_plain _ _ hy) (shal_min hs hu) ⟨.bl _, H, I, rfl, q⟩
  · cases eg
theorem x_dNe (hu : X.A.units + 200 < cLine) : OpR X (compareOp .NotEq) (r2X X.K dNe) := by
  intro pins s σ H x y v u Q I rx ry ⟨dx, dy, k, hx, hy, eg, q⟩
  unfold dNe at eg
  split at eg
  · rename_i hs
    cases eg
    obtain ⟨as, r1⟩ := Dp.reads I dx x v hx rx
    obtain ⟨bs, r2⟩ := Dp.reads I dy y u hy ry
    exact SeqAt.ne_plain r1 r2 (dp_plain _ _ hx) (dp_plain _ _ hy) (shal_min hs hu) ⟨.bl _, H, I, rfl, q⟩
  · cases eg
theorem topX_imp {g : PyData → PyData → Option PyData} {σ : L2.St} {H : Hp} {Q : Bool → Hp → Prop} (h : RT X.K O (asB (f2 g F F')) σ H Q) : tOp (r2X X.K g) (RX X.K O F) (RX X.K O F') σ H (fun x H' => ∃ k, x = .bl k ∧ Q k H') := by
  obtain ⟨Γ, G, ρ, b, R, eb, q⟩ := h
  obtain ⟨dx, dy, e1, e2, e3⟩ := f2_some (asB_some eb)
  exact ⟨Γ, G, ρ, dx, R, e1, fun x G1 H1 s1 bx => ⟨Γ, G1, ρ, dy, R.stp s1, e2, fun y G2 H2 s2 y2 => ⟨dx, dy, b, dp_mono s2.hh _ _ bx, y2, e3, b, rfl, q G2 H2 (s1.trans s2)⟩⟩⟩
theorem t_cmpX {op : CmpOp} {g : PyData → PyData → Option PyData} (ho : OpR X (compareOp op) (r2X X.K g)) (ha : PE X a (RX X.K O F)) (hb : PE X b (RX X.K O F')) (hm : behindInMarks op b = false) : PT X (.Compare a [op] [b] pos) (RT X.K O (asB (f2 g F F'))) :=
  pt_imp (pt_cmpR ho ha hb hm) fun σ H Q h => topX_imp h
/-! ### a list of own lists -/
theorem s_lol0 {i : Nat} {x : Str} (hN : X.N.Nodup) (hi : X.N[i]? = some x) (hx : Loc X.env.scope x) (hl : lsl i O = true) (hO : O' = insK i .lol O) (hs : swapsWith (.List [] p) (some (.Name x pos')) pos.line X.env = pure false := by rfl) (hf : X.fn x = true ∨ X.env.scope.names.lookup x = some .local := by first | exact .inl rfl | exact .inr rfl | assumption) :
    PS X (.Assign [.Name x pos'] (.List [] p) pos) (RS X.K W O O' OL (setO i (few nilA))) := ps_imp (ps_set hN hi hx (pe_lst pa_nil) hs hf) fun D σ H ⟨Γ, G, ρ, r, R, er, f⟩ => by
  obtain ⟨d, e1, rfl⟩ := setS_some er
  cases e1
  refine ⟨Nat.zero_le _, fun q hq => ?_⟩
  exact f _ G _ (by rw [hO]; exact R.storeK (Stp.new R.gh hq) hl (.lol (qs := []) upd_same .nil (by simp)) fun a ha => by rw [List.mem_singleton.mp ha]; exact ⟨hq, R.gh.free hq⟩)
def lolNewS (i : Nat) : Bs := fun ρ => match dvGet ρ i with
  | some (.list ds) => if ds.length < 16777216 then some (.nx (ρ.set i (some (.list (ds ++ [.list []]))))) else none
  | _ => none
theorem lolNewS_some {i : Nat} {ρ : Dv} {r : Res} (h : lolNewS i ρ = some r) : ∃ ds, dvGet ρ i = some (.list ds) ∧ ds.length < 16777216 ∧ r = .nx (ρ.set i (some (.list (ds ++ [.list []])))) := by
  unfold lolNewS at h
  split at h
  · split at h
    · cases h; exact ⟨_, by assumption, by assumption, rfl⟩
    · cases h
  · cases h
theorem Lols.length {K : PySem.W.Frag} {G H : Hp} : ∀ {qs : List Addr} {ds : List PyData}, Lols K G H qs ds → qs.length = ds.length
  | _, _, .nil => rfl
  | _, _, .cons _ _ t => by simp only [List.length_cons, Lols.length t]
theorem Lols.append {K : PySem.W.Frag} {G H : Hp} : ∀ {qs rs : List Addr} {ds es : List PyData}, Lols K G H qs ds → Lols K G H rs es → Lols K G H (qs ++ rs) (ds ++ es)
  | _, _, _, _, .nil, l => l
  | _, _, _, _, .cons h d t, l => .cons h d (Lols.append t l)
theorem Lols.split {K : PySem.W.Frag} {G H : Hp} : ∀ {ds es : List PyData} {qs : List Addr}, Lols K G H qs (ds ++ es) → ∃ rs ts, qs = rs ++ ts ∧ Lols K G H rs ds ∧ Lols K G H ts es
  | [], _, qs, l => ⟨[], qs, rfl, .nil, l⟩
  | d :: ds, es, _, l => by
    cases l with
    | cons h da t =>
      obtain ⟨rs, ts, rfl, l1, l2⟩ := Lols.split t
      exact ⟨_ :: rs, ts, rfl, .cons h da l1, l2⟩
/-- a new empty list behind it -/
theorem s_lolNew {y : Str} {apos cpos : Pos} (i : Nat) (hi : (i, Kd.lol) ∈ O)
    (hb : PE X (.Call (.Attribute (.Name y pos') "append" apos) [.List [] p] [] cpos) (tBM X.K "list" rAppend (tVar i) (tCons (tLst tNil) tNil)))
    (hs : swapsWith (.Call (.Attribute (.Name y pos') "append" apos) [.List [] p] [] cpos) none pos.line X.env = pure false := by rfl) :
    PS X (.Expr (.Call (.Attribute (.Name y pos') "append" apos) [.List [] p] [] cpos) pos) (RS X.K W O O OL (lolNewS i)) := ps_imp (ps_expr hb hs) fun D σ H ⟨Γ, G, ρ, r, R, er, f⟩ => by
  obtain ⟨ds, e1, hl, rfl⟩ := lolNewS_some er
  obtain ⟨w, fp, f2, o, n, ch⟩ := R.change hi (dvGet_some e1)
  cases o with
  | lol hp l nd =>
    rename_i q qs
    refine ⟨_, f2, .inl ⟨rfl, _, SqL.of hp⟩, Nat.zero_le _, fun c hc => ?_⟩
    have nqc : q ≠ c := ne_of_none hp hc
    refine ⟨q, _, _, rfl, rfl, by rw [upd_ne nqc]; exact hp, by rw [List.length_map, l.length, line_eq]; exact hl, ?_⟩
    have nc : c ∉ qs := fun z => l.here c z hc
    have nq : q ∉ qs := (List.nodup_cons.mp nd).1
    refine f σ G _ (ch G (upd H c (.lst [])) _ (q :: (qs ++ [c])) _ (Stp.new R.gh hc) (fun a ha => (n a ha).2) (.lol ?_ ?_ ?_) (fun a ha _ => upd_ne fun z => ha (by simp [z])) fun a ha => ?_)
    · rw [upd_same]; simp
    · refine ((l.frame (Same.refl _) fun a ha => ?_)).append (.cons ?_ .nil .nil)
      · rw [upd_ne (fun z => nq (by rw [← z]; exact ha)), upd_ne (fun z => nc (by rw [← z]; exact ha))]
      · rw [upd_ne (Ne.symm nqc), upd_same]
    · rw [List.nodup_cons, List.mem_append, List.nodup_append]
      refine ⟨fun z => ?_, (List.nodup_cons.mp nd).2, by simp, fun a ha b hb => ?_⟩
      · rcases z with z | z
        · exact nq z
        · exact nqc (List.mem_singleton.mp z)
      · rw [List.mem_singleton.mp hb]; exact fun z => nc (by rw [← z]; exact ha)
    · rcases List.mem_cons.mp ha with rfl | ha
      · exact .inl (by simp)
      · rcases List.mem_append.mp ha with ha | ha
        · exact .inl (by simp [ha])
        · rw [List.mem_singleton.mp ha]; exact .inr ⟨hc, R.gh.free hc⟩
/-- x = x + [[]] -/
theorem s_lolCat {i : Nat} {x : Str} {p1 p2 p3 : Pos} (hN : X.N.Nodup) (hi : X.N[i]? = some x) (hx : Loc X.env.scope x) (hO : (i, Kd.lol) ∈ O) (hv : PE X (.Name x p1) (tVar i))
    (hs : swapsWith (.BinOp (.Name x p1) .Add (.List [.List [] p2] p3) p) (some (.Name x pos')) pos.line X.env = pure false := by rfl) (hf : X.fn x = true ∨ X.env.scope.names.lookup x = some .local := by first | exact .inl rfl | exact .inr rfl | assumption)
    (hst : starEach [.List [] p2] X.env = (false, eval (.List [] p2) X.env) :: starEach [] X.env := by rfl) :
    PS X (.Assign [.Name x pos'] (.BinOp (.Name x p1) .Add (.List [.List [] p2] p3) p) pos) (RS X.K W O O OL (lolNewS i)) :=
  ps_imp (ps_set hN hi hx (pe_op op_cat hv (pe_lst (pa_cons (pe_lst pa_nil) pa_nil hst))) hs hf) fun D σ H ⟨Γ, G, ρ, r, R, er, f⟩ => by
  obtain ⟨ds, e1, hl, rfl⟩ := lolNewS_some er
  have e1' := dvGet_some e1
  obtain ⟨w, fp, f2, o, n, ch⟩ := R.changeV hO e1'
  cases o with
  | lol hp l nd =>
    rename_i q qs
    refine ⟨_, f2, Nat.zero_le _, fun c hc => ⟨by show 1 ≤ sizeLine; decide, fun c2 hc2 => ?_⟩⟩
    have hc2' : H c2 = none := (same_new hc).free hc2
    have n12 : c2 ≠ c := fun z => by rw [z, upd_same] at hc2; cases hc2
    have nqc : q ≠ c := ne_of_none hp hc
    have nqc2 : q ≠ c2 := ne_of_none hp hc2'
    refine ⟨q, c2, _, _, rfl, rfl, by rw [upd_ne nqc2, upd_ne nqc]; exact hp, upd_same, by rw [List.length_map, l.length, line_eq]; show ds.length + 1 ≤ _; omega, fun c3 hc3 => ?_⟩
    have hc3' : H c3 = none := ((same_new hc).trans (same_new hc2)).free hc3
    have n31 : c3 ≠ c := fun z => by rw [z, upd_ne (Ne.symm n12), upd_same] at hc3; cases hc3
    have n32 : c3 ≠ c2 := fun z => by rw [z, upd_same] at hc3; cases hc3
    have nc : c ∉ qs := fun z => l.here c z hc
    have nc2 : c2 ∉ qs := fun z => l.here c2 z hc2'
    have nc3 : c3 ∉ qs := fun z => l.here c3 z hc3'
    have s1 := Stp.new (o := .lst []) R.gh hc
    have s2 := Stp.new (o := .lst [V.ref c]) s1.gh hc2
    have s3 := Stp.new (o := .lst (qs.map V.ref ++ [V.ref c])) s2.gh hc3
    have st := (s1.trans s2).trans s3
    -- the old list is forgotten, its lists stand in the new one
    refine f _ G _ ?_
    have own : Own X.K G (upd (upd (upd H c (.lst [])) c2 (.lst [V.ref c])) c3 (.lst (qs.map V.ref ++ [V.ref c]))) .lol (.ref c3) (c3 :: (qs ++ [c])) (.list (ds ++ [.list []])) := by
      refine .lol (by rw [upd_same]; simp) (((l.frame (Same.refl _) fun a ha => ?_)).append (.cons ?_ .nil .nil)) ?_
      · rw [upd_ne (fun z => nc3 (by rw [← z]; exact ha)), upd_ne (fun z => nc2 (by rw [← z]; exact ha)), upd_ne (fun z => nc (by rw [← z]; exact ha))]
      · rw [upd_ne (Ne.symm n31), upd_ne (Ne.symm n12), upd_same]
      · rw [List.nodup_cons, List.mem_append, List.nodup_append]
        refine ⟨fun z => ?_, (List.nodup_cons.mp nd).2, by simp, fun a ha b hb => ?_⟩
        · rcases z with z | z
          · exact nc3 z
          · exact n31 (List.mem_singleton.mp z)
        · rw [List.mem_singleton.mp hb]; exact fun z => nc (by rw [← z]; exact ha)
    refine ch G _ _ (.ref c3) (c3 :: (qs ++ [c])) _ st (fun a ha => (n a ha).2) (.inl rfl) own (fun _ _ _ => rfl) fun a ha => ?_
    rcases List.mem_cons.mp ha with rfl | ha
    · exact .inr ⟨hc3', R.gh.free hc3'⟩
    · rcases List.mem_append.mp ha with ha | ha
      · exact .inl (by simp [ha])
      · rw [List.mem_singleton.mp ha]; exact .inr ⟨hc, R.gh.free hc⟩
/-- x[-1].append(e) -/
def lolAppS (i : Nat) (F : Fd) : Bs := fun ρ => match dvGet ρ i, F ρ with
  | some (.list ds), some d => match ds.getLast? with
    | some (.list es) => if es.length < 16777216 then some (.nx (ρ.set i (some (.list (ds.dropLast ++ [.list (es ++ [d])]))))) else none
    | _ => none
  | _, _ => none
theorem lolAppS_some {i : Nat} {ρ : Dv} {r : Res} (h : lolAppS i F ρ = some r) : ∃ ds es d, dvGet ρ i = some (.list (ds ++ [.list es])) ∧ F ρ = some d ∧ es.length < 16777216 ∧ r = .nx (ρ.set i (some (.list (ds ++ [.list (es ++ [d])])))) := by
  unfold lolAppS at h
  split at h
  · rename_i ds d e1 e2
    split at h
    · rename_i es e3
      split at h
      · cases h
        obtain ⟨l, el⟩ := List.getLast?_eq_some_iff.mp e3
        subst el
        exact ⟨l, es, d, e1, e2, by assumption, by simp⟩
      · cases h
    · cases h
  · cases h
theorem s_lolApp {apos cpos : Pos} {o : Expr} (i : Nat) (hi : (i, Kd.lol) ∈ O)
    (hb : PE X (.Call (.Attribute o "append" apos) [e] [] cpos) (tBM X.K "list" rAppend (tOp (rIxL X.K) (tVar i) (tUn (rU fun i => .int (-i)) (tC (.int 1)))) (tCons (RD X.K O F) tNil)))
    (hs : swapsWith (.Call (.Attribute o "append" apos) [e] [] cpos) none pos.line X.env = pure false := by rfl) :
    PS X (.Expr (.Call (.Attribute o "append" apos) [e] [] cpos) pos) (RS X.K W O O OL (lolAppS i F)) := ps_imp (ps_expr hb hs) fun D σ H ⟨Γ, G, ρ, r, R, er, f⟩ => by
  obtain ⟨ds, es, d, e1, e2, hl, rfl⟩ := lolAppS_some er
  obtain ⟨w, fp, f2, o, n, ch⟩ := R.change hi (dvGet_some e1)
  cases o with
  | lol hp l nd =>
    rename_i q qs
    obtain ⟨rs, ts, rfl, l1, l2⟩ := Lols.split l
    cases l2 with
    | cons hq da t =>
      cases t
      rename_i c xs
      refine ⟨_, f2, 1, rfl, q, _, _, .ref c, rfl, rfl, SqL.of hp, by simp only [List.map_append, List.map_cons, List.map_nil]; exact atI_last _ _, .inl ⟨rfl, _, SqL.of hq⟩, Γ, G, ρ, d, R, e2, fun v G' H' s dv => ?_⟩
      have h5 := s.hh _ _ hq
      have h6 := s.hh _ _ hp
      refine ⟨c, xs, v, rfl, rfl, h5, by rw [da.length, line_eq]; exact hl, ?_⟩
      obtain ⟨nq, nds⟩ := List.nodup_cons.mp nd
      rw [List.nodup_append] at nds
      have gn : ∀ a, a ∈ q :: (rs ++ [c]) → G' a = none := fun a ha => s.sep a ((Own.lol hp l nd).here a ha) (n a ha).2
      have nqc : q ≠ c := fun z => nq (by simp [z])
      refine f σ G' _ (ch G' H' _ (q :: (rs ++ [c])) _ s gn (.lol (by rw [upd_ne nqc]; exact h6) ((l1.frame s.gg fun a ha => ?_).append (.cons upd_same ((dpAll_mono s.gg _ _ da).append (.cons dv .nil)) .nil)) nd) (fun a ha _ => upd_ne fun z => ha (by simp [z])) fun a ha => .inl ha)
      have nac : a ≠ c := nds.2.2 a ha c (by simp)
      rw [upd_ne nac]
      cases q2 : H a with
      | none => exact absurd q2 (l1.here a ha)
      | some u => exact s.hh a u q2
end
end Dat
open PySem PySem.Spec PyProof.Rows L2
namespace Dat
/-! ### evaluating -/
section
variable {ρ : Dv} {F F' F'' : Fd} {L : Fl} {B B' : Bs} {C C' : Dv → Option Bool} {i : Nat}
@[simp] theorem e_seqS : seqS B B' ρ = (match B ρ with | some (.nx ρ') => B' ρ' | r => r) := rfl
@[simp] theorem e_setS : setS i F ρ = (F ρ).map fun d => .nx (ρ.set i (some d)) := rfl
@[simp] theorem e_setO : setO i L ρ = (L ρ).map fun d => .nx (ρ.set i (some (.list d))) := by
  unfold setO setS lstF; cases L ρ <;> rfl
@[simp] theorem e_ifS : ifS C B B' ρ = (match C ρ with | some true => B ρ | some false => B' ρ | none => none) := rfl
@[simp] theorem e_nopS : nopS ρ = some (.nx ρ) := rfl
@[simp] theorem e_retS : retS F ρ = (F ρ).map fun d => .ret d ρ := rfl
@[simp] theorem e_retN : retN ρ = some (.ret .none ρ) := rfl
@[simp] theorem e_exS : exS F ρ = (F ρ).map fun _ => .nx ρ := rfl
@[simp] theorem e_ctS : ctS ρ = some (.ct ρ) := rfl
@[simp] theorem e_brkS : brkS ρ = some (.brk ρ) := rfl
@[simp] theorem e_f2 {g : PyData → PyData → Option PyData} : f2 g F F' ρ = (F ρ).bind fun x => (F' ρ).bind fun y => g x y := rfl
@[simp] theorem e_f1 {g : PyData → Option PyData} : f1 g F ρ = (F ρ).bind g := rfl
@[simp] theorem e_vF : vF i ρ = (ρ[i]?).join := rfl
@[simp] theorem e_cF {d : PyData} : cF d ρ = some d := rfl
@[simp] theorem e_asB : asB F ρ = (F ρ).bind fun d => match d with | .bool b => some b | _ => none := rfl
@[simp] theorem e_notT : notT C ρ = (C ρ).map (!·) := rfl
@[simp] theorem e_andT : andT C C' ρ = (match C ρ with | some true => C' ρ | some false => some false | none => none) := rfl
@[simp] theorem e_orT : orT C C' ρ = (match C ρ with | some true => some true | some false => C' ρ | none => none) := rfl
@[simp] theorem e_blF : blF C ρ = (C ρ).map .bool := rfl
@[simp] theorem e_andF : andF F F' ρ = (match F ρ with | some (.bool true) => F' ρ | some (.bool false) => some (.bool false) | _ => none) := rfl
@[simp] theorem e_orF : orF F F' ρ = (match F ρ with | some (.bool true) => some (.bool true) | some (.bool false) => F' ρ | _ => none) := rfl
@[simp] theorem e_ifF : ifF C F F' ρ = (match C ρ with | some true => F ρ | some false => F' ρ | none => none) := rfl
@[simp] theorem e_fL {α : Type} {g : List PyData → Option α} : fL g L ρ = (L ρ).bind g := rfl
@[simp] theorem e_consA : consA F L ρ = (F ρ).bind fun d => (L ρ).map fun ds => d :: ds := rfl
@[simp] theorem e_nilA : nilA ρ = some [] := rfl
@[simp] theorem e_tupF : tupF L ρ = (L ρ).bind fun ds => if ds.length ≤ 1000 then some (.tuple ds) else none := by
  unfold tupF few
  cases L ρ with
  | none => rfl
  | some ds => simp only [Option.bind_some]; split <;> rfl
@[simp] theorem e_few : few L ρ = (L ρ).bind fun ds => if ds.length ≤ 1000 then some ds else none := rfl
@[simp] theorem e_lstF : lstF L ρ = (L ρ).map .list := rfl
@[simp] theorem e_chF {g g' : PyData → PyData → Option PyData} : chF g g' F F' F'' ρ = (match f2 g F F' ρ with
  | some (.bool true) => f2 g' F' F'' ρ
  | some (.bool false) => some (.bool false)
  | _ => none) := rfl
@[simp] theorem e_someP : someP F ρ = (F ρ).bind fun d => match d with | .int i => some (some i) | _ => none := by
  unfold someP asI
  cases F ρ with
  | none => rfl
  | some d => cases d <;> rfl
@[simp] theorem e_noP : noP ρ = some none := rfl
@[simp] theorem e_slF {α : Type} {g : PyData → Option Int → Option Int → Option α} {P P' : Dv → Option (Option Int)} : slF g F P P' ρ = (F ρ).bind fun d => (P ρ).bind fun lo => (P' ρ).bind fun hi => g d lo hi := rfl
@[simp] theorem e_seqA : seqA F ρ = (F ρ).bind fun d => match d with | .list xs => some xs | .tuple xs => some xs | _ => none := rfl
@[simp] theorem e_exN {n : Nat} : exN n L ρ = (L ρ).bind fun ds => if ds.length = n then some ds else none := rfl
@[simp] theorem e_yesT : yesT ρ = some true := rfl
@[simp] theorem e_enF : enF F ρ = ((F ρ).bind fun d => match d with | .list xs => some xs | _ => none).map numbered := rfl
@[simp] theorem e_forS {Fs : Fl} {tgt : Tgt} : forS Fs tgt B ρ = (Fs ρ).bind fun ds => forGo tgt B ds ρ := rfl
@[simp] theorem e_lcF {Fs : Fl} {vs : List Nat} {tgt : Tgt} {E : Fd} : lcF Fs vs tgt C E ρ = (Fs ρ).bind fun ds => lcGo tgt C E (wipeD ρ vs) ds := rfl
@[simp] theorem e_tgN {d : PyData} : tgN i d ρ = some (ρ.set i (some d)) := rfl
@[simp] theorem e_tgP {j : Nat} {a b : PyData} : tgP i j (.tuple [a, b]) ρ = some ((ρ.set i (some a)).set j (some b)) := rfl
@[simp] theorem e_wipeN : wipeD ρ [] = ρ := rfl
@[simp] theorem e_wipeC {vs : List Nat} : wipeD ρ (i :: vs) = (wipeD ρ vs).set i none := rfl
@[simp] theorem e_appS {ds : List PyData} {d : PyData} : appS i F ρ = (match dvGet ρ i, F ρ with
  | some (.list ds), some d => if ds.length < 16777216 then some (.nx (ρ.set i (some (.list (ds ++ [d]))))) else none
  | _, _ => none) := rfl
@[simp] theorem e_lolNewS : lolNewS i ρ = (match dvGet ρ i with
  | some (.list ds) => if ds.length < 16777216 then some (.nx (ρ.set i (some (.list (ds ++ [.list []]))))) else none
  | _ => none) := rfl
@[simp] theorem e_lolAppS : lolAppS i F ρ = (match dvGet ρ i, F ρ with
  | some (.list ds), some d => match ds.getLast? with
    | some (.list es) => if es.length < 16777216 then some (.nx (ρ.set i (some (.list (ds.dropLast ++ [.list (es ++ [d])]))))) else none
    | _ => none
  | _, _ => none) := rfl
@[simp] theorem e_runF {n k : Nat} {ds : List PyData} : runF n k B ds = if ds.length = k then (match B (env0 n ds) with | some (.ret d _) => some d | some (.nx _) => some .none | _ => none) else none := rfl
@[simp] theorem e_env0 {n : Nat} {ds : List PyData} : env0 n ds = ds.map some ++ List.replicate (n - ds.length) none := rfl
@[simp] theorem e_dvGet : dvGet ρ i = (ρ[i]?).join := rfl
@[simp] theorem e_dAdd {i j : Int} : dAdd (.int i) (.int j) = some (.int (i + j)) := rfl
@[simp] theorem e_dAddL {xs ys : List PyData} : dAdd (.list xs) (.list ys) = if xs.length + ys.length ≤ 16777216 then some (.list (xs ++ ys)) else none := rfl
@[simp] theorem e_dSub {i j : Int} : dSub (.int i) (.int j) = some (.int (i - j)) := rfl
@[simp] theorem e_dMul {i j : Int} : dMul (.int i) (.int j) = if (-(2 ^ 64) < i ∧ i < 2 ^ 64) ∨ (-(2 ^ 64) < j ∧ j < 2 ^ 64) then some (.int (i * j)) else none := rfl
@[simp] theorem e_dMod {i j : Int} : dMod (.int i) (.int j) = if 0 < j then some (.int (i % j)) else none := rfl
@[simp] theorem e_dDiv {i j : Int} : dDiv (.int i) (.int j) = if 0 < j ∧ j < 1073741824 then some (.int (i / j)) else none := rfl
@[simp] theorem e_dPow {i j : Int} : dPow (.int i) (.int j) = if 0 ≤ j ∧ j ≤ 1000000 ∧ i.natAbs < 2 ^ 64 then some (.int (i ^ j.toNat)) else none := rfl
@[simp] theorem e_dNeg {i : Int} : dNeg (.int i) = some (.int (-i)) := rfl
@[simp] theorem e_dLt {i j : Int} : dLt (.int i) (.int j) = some (.bool (decide (i < j))) := rfl
@[simp] theorem e_dLe {i j : Int} : dLe (.int i) (.int j) = some (.bool (decide (i ≤ j))) := rfl
@[simp] theorem e_dGt {i j : Int} : dGt (.int i) (.int j) = some (.bool (decide (j < i))) := rfl
@[simp] theorem e_dGe {i j : Int} : dGe (.int i) (.int j) = some (.bool (decide (j ≤ i))) := rfl
@[simp] theorem e_dIxL {xs : List PyData} {i : Int} : dIx (.list xs) (.int i) = atI xs i := rfl
@[simp] theorem e_dIxT {xs : List PyData} {i : Int} : dIx (.tuple xs) (.int i) = atI xs i := rfl
@[simp] theorem e_lenL {xs : List PyData} : dLen [.list xs] = some (.int xs.length) := rfl
@[simp] theorem e_lenT {xs : List PyData} : dLen [.tuple xs] = some (.int xs.length) := rfl
@[simp] theorem e_dListL {xs : List PyData} : dList [.list xs] = some xs := rfl
@[simp] theorem e_dListT {xs : List PyData} : dList [.tuple xs] = some xs := rfl
@[simp] theorem e_dTupleL {xs : List PyData} : dTuple [.list xs] = some (.tuple xs) := rfl
@[simp] theorem e_dTupleT {xs : List PyData} : dTuple [.tuple xs] = some (.tuple xs) := rfl
@[simp] theorem e_dIsi {f : PyData → Bool} {d : PyData} : dIsi f d = some (.bool (f d)) := rfl
@[simp] theorem e_intB {b : Bool} : dInt [.bool b] = some (.int (if b then 1 else 0)) := rfl
@[simp] theorem e_intI {i : Int} : dInt [.int i] = some (.int i) := rfl
@[simp] theorem e_eqI {i j : Int} : dEq (.int i) (.int j) = some (.bool (decide (i = j))) := by
  unfold dEq
  rw [if_pos (.inl rfl)]
  simp only [PyData.eqv, Bool.beq_eq_decide_eq]
@[simp] theorem e_neI {i j : Int} : dNe (.int i) (.int j) = some (.bool (!decide (i = j))) := by
  unfold dNe
  rw [if_pos (.inl rfl)]
  simp only [PyData.eqv, Bool.beq_eq_decide_eq]
@[simp] theorem e_eqS {i j : Str} : dEq (.str i) (.str j) = some (.bool (decide (i = j))) := by
  unfold dEq
  rw [if_pos (.inl rfl)]
  simp only [PyData.eqv, Bool.beq_eq_decide_eq]
@[simp] theorem e_neS {i j : Str} : dNe (.str i) (.str j) = some (.bool (!decide (i = j))) := by
  unfold dNe
  rw [if_pos (.inl rfl)]
  simp only [PyData.eqv, Bool.beq_eq_decide_eq]
@[simp] theorem e_isList {xs : List PyData} : PyData.isList (.list xs) = true := rfl
@[simp] theorem e_isTuple {xs : List PyData} : PyData.isTuple (.tuple xs) = true := rfl
@[simp] theorem e_isStr {x : Str} : PyData.isStr (.str x) = true := rfl
@[simp] theorem e_isInt {x : Int} : PyData.isInt (.int x) = true := rfl
@[simp] theorem e_isBool {x : Int} : PyData.isBool (.int x) = false := rfl
@[simp] theorem e_isBoolB {x : Bool} : PyData.isBool (.bool x) = true := rfl
@[simp] theorem e_range1 {j : Int} : dRange [.int j] = if j ≤ 16777216 ∧ -16777216 ≤ j then some (upFrom 0 j.toNat) else none := rfl
@[simp] theorem e_range2 {i j : Int} : dRange [.int i, .int j] = if j ≤ 16777216 ∧ -16777216 ≤ i ∧ i ≤ 16777216 ∧ -16777216 ≤ j ∧ j - i ≤ 16777216 then some (upFrom i (j - i).toNat) else none := rfl
end

/-! ### lists by place -/
theorem atI_map {α β : Type} (f : α → β) (xs : List α) (i : Int) : atI (xs.map f) i = (atI xs i).map f := by
  unfold atI
  rw [List.length_map]
  cases ixN xs.length i with
  | none => rfl
  | some j => simp
theorem atI_of {α : Type} {xs : List α} {i : Int} {j : Nat} {v : α} (h : i = (j : Int)) (e : xs[j]? = some v) : atI xs i = some v := by
  rw [h]; exact atI_nat e
@[simp] theorem at0 {α : Type} {a : α} {r : List α} : atI (a :: r) 0 = some a := atI_nat (j := 0) rfl
@[simp] theorem at1 {α : Type} {a b : α} {r : List α} : atI (a :: b :: r) 1 = some b := atI_nat (j := 1) rfl
@[simp] theorem at2 {α : Type} {a b c : α} {r : List α} : atI (a :: b :: c :: r) 2 = some c := atI_nat (j := 2) rfl

/-! ### comprehensions -/
theorem lc_map {tgt : Tgt} {E : Fd} {ρ : Dv} {α : Type} (enc g : α → PyData) : ∀ (xs : List α), (∀ x, x ∈ xs → (tgt (enc x) ρ).bind E = some (g x)) → lcGo tgt yesT E ρ (xs.map enc) = some (xs.map g)
  | [], _ => rfl
  | x :: xs, h => by
    have h1 := h x (by simp)
    have ih := lc_map enc g xs fun y hy => h y (by simp [hy])
    rw [List.map_cons]
    unfold lcGo
    cases e : tgt (enc x) ρ with
    | none => rw [e] at h1; cases h1
    | some ρ1 =>
      rw [e, Option.bind_some] at h1
      simp [h1, ih]
theorem lc_range {tgt : Tgt} {E : Fd} {ρ : Dv} (lo : Int) (n : Nat) (g : Nat → PyData) (h : ∀ k, k < n → (tgt (.int (lo + k)) ρ).bind E = some (g k)) : lcGo tgt yesT E ρ (upFrom lo n) = some ((List.range n).map g) :=
  lc_map (fun k : Nat => PyData.int (lo + k)) g (List.range n) fun k hk => h k (List.mem_range.mp hk)
theorem lc_filter {tgt : Tgt} {C : Dv → Option Bool} {E : Fd} {ρ : Dv} {α : Type} (enc g : α → PyData) (p : α → Bool) : ∀ (xs : List α), (∀ x, x ∈ xs → ∃ ρ1, tgt (enc x) ρ = some ρ1 ∧ C ρ1 = some (p x) ∧ (p x = true → E ρ1 = some (g x))) → lcGo tgt C E ρ (xs.map enc) = some ((xs.filter p).map g)
  | [], _ => rfl
  | x :: xs, h => by
    obtain ⟨ρ1, h1, h2, h3⟩ := h x (by simp)
    have ih := lc_filter enc g p xs fun y hy => h y (by simp [hy])
    rw [List.map_cons]
    unfold lcGo
    rw [h1, Option.bind_some, h2]
    cases e : p x with
    | true => simp [h3 e, ih, List.filter_cons, e]
    | false => simp [ih, List.filter_cons, e]

/-! ### the loops -/
/-- a loop whose every turn goes on -/
theorem for_go {tgt : Tgt} {B : Bs} {α S : Type} (enc : α → PyData) (R : S → Dv) (f : S → α → S) (Inv : List α → S → Prop) (all : List α)
    (h : ∀ pre x post s, all = pre ++ x :: post → Inv pre s → Inv (pre ++ [x]) (f s x) ∧ ((tgt (enc x) (R s)).bind B = some (.nx (R (f s x))) ∨ (tgt (enc x) (R s)).bind B = some (.ct (R (f s x))))) :
    ∀ (pre post : List α) (s : S), all = pre ++ post → Inv pre s → forGo tgt B (post.map enc) (R s) = some (.nx (R (post.foldl f s))) ∧ Inv all (post.foldl f s)
  | pre, [], s, e, i => ⟨rfl, by rw [e, List.append_nil]; exact i⟩
  | pre, x :: post, s, e, i => by
    obtain ⟨i2, h2⟩ := h pre x post s e i
    have ih := for_go enc R f Inv all h (pre ++ [x]) post (f s x) (by rw [e, List.append_assoc]; rfl) i2
    refine ⟨?_, ih.2⟩
    rw [List.map_cons]
    unfold forGo
    cases q : tgt (enc x) (R s) with
    | none => rw [q] at h2; simp at h2
    | some ρ1 =>
      rw [q, Option.bind_some] at h2
      rcases h2 with h2 | h2 <;> simp [h2, ih.1]
end Dat
open PySem PySem.Spec PyProof.Rows L2
namespace Dat
/-! ### marks, entries, rows -/
abbrev Mark := Bool × Nat
abbrev Entry := Int × Int
abbrev Row := Int × Mark
def sideS : Bool → Str
  | false => "bank"
  | true => "book"
def eMark (m : Mark) : PyData := .tuple [.str (sideS m.1), .int m.2]
def eEntry (e : Entry) : PyData := .tuple [.int e.1, .int e.2]
def eRow (r : Row) : PyData := .tuple [.int r.1, .str (sideS r.2.1), .int r.2.2]
theorem side_inj {a b : Bool} : sideS a = sideS b ↔ a = b := by
  cases a <;> cases b <;> simp [sideS] <;> decide +kernel
theorem side_bank (a : Bool) : (sideS a = ("bank" : Str)) ↔ a = false := side_inj (b := false)
theorem side_book (a : Bool) : (sideS a = ("book" : Str)) ↔ a = true := side_inj (b := true)
theorem eqv_mark (a b : Mark) : PyData.eqv (eMark a) (eMark b) = decide (a = b) := by
  obtain ⟨a1, a2⟩ := a
  obtain ⟨b1, b2⟩ := b
  simp only [eMark, PyData.eqv, PyData.eqvAll, Bool.and_true]
  rw [Bool.eq_iff_iff]
  simp [side_inj]
  intro _
  omega
theorem eqv_entry (a b : Entry) : PyData.eqv (eEntry a) (eEntry b) = decide (a = b) := by
  obtain ⟨a1, a2⟩ := a
  obtain ⟨b1, b2⟩ := b
  simp only [eEntry, PyData.eqv, PyData.eqvAll, Bool.and_true]
  rw [Bool.eq_iff_iff]
  simp
theorem eqvAll_map {α : Type} [DecidableEq α] {enc : α → PyData} (h : ∀ a b, PyData.eqv (enc a) (enc b) = decide (a = b)) : ∀ xs ys : List α, PyData.eqvAll (xs.map enc) (ys.map enc) = decide (xs = ys)
  | [], [] => rfl
  | [], _ :: _ => by simp [PyData.eqvAll]
  | _ :: _, [] => by simp [PyData.eqvAll]
  | x :: xs, y :: ys => by
    simp only [List.map_cons, PyData.eqvAll, h, eqvAll_map h xs ys]
    rw [Bool.eq_iff_iff]
    simp
/-! ### depth -/
theorem depthAll_le {xs : List PyData} {n : Nat} (h : ∀ x, x ∈ xs → x.depth ≤ n) : PyData.depthAll xs ≤ n := by
  induction xs with
  | nil => simp [PyData.depthAll]
  | cons x xs ih =>
    simp only [PyData.depthAll]
    have h1 := h x (by simp)
    have h2 := ih fun y hy => h y (by simp [hy])
    omega
theorem depthAll_map {α : Type} {enc : α → PyData} {n : Nat} (h : ∀ a, (enc a).depth ≤ n) (xs : List α) : PyData.depthAll (xs.map enc) ≤ n := depthAll_le fun x hx => by
  obtain ⟨a, _, rfl⟩ := List.mem_map.mp hx
  exact h a
theorem shalL {xs : List PyData} (h : PyData.depthAll xs ≤ 99) : shal (.list xs) = true := by
  unfold shal; simp only [PyData.depth]; exact decide_eq_true (by omega)
theorem shalT {xs : List PyData} (h : PyData.depthAll xs ≤ 99) : shal (.tuple xs) = true := by
  unfold shal; simp only [PyData.depth]; exact decide_eq_true (by omega)
theorem depth_mark (m : Mark) : (eMark m).depth = 1 := by simp [eMark, PyData.depth, PyData.depthAll]
theorem depth_entry (m : Entry) : (eEntry m).depth = 1 := by simp [eEntry, PyData.depth, PyData.depthAll]
theorem depth_row (m : Row) : (eRow m).depth = 1 := by simp [eRow, PyData.depth, PyData.depthAll]
theorem shal_of {d : PyData} {n : Nat} (h : d.depth = n) (hn : n ≤ 100 := by decide) : shal d = true := decide_eq_true (by omega)
theorem shal_map {α : Type} {enc : α → PyData} {n : Nat} (h : ∀ a, (enc a).depth = n) (xs : List α) (hn : n ≤ 99 := by decide) : shal (.list (xs.map enc)) = true := shalL (Nat.le_trans (depthAll_map (fun a => Nat.le_of_eq (h a)) xs) hn)
theorem shal_mapT {α : Type} {enc : α → PyData} {n : Nat} (h : ∀ a, (enc a).depth = n) (xs : List α) (hn : n ≤ 99 := by decide) : shal (.tuple (xs.map enc)) = true := shalT (Nat.le_trans (depthAll_map (fun a => Nat.le_of_eq (h a)) xs) hn)
/-- lists of alike things compared -/
theorem eq_lists {α : Type} [DecidableEq α] {enc : α → PyData} {n : Nat} (h : ∀ a b, PyData.eqv (enc a) (enc b) = decide (a = b)) (hd : ∀ a, (enc a).depth = n) (xs ys : List α) (hn : n ≤ 99 := by decide) : dEq (.list (xs.map enc)) (.list (ys.map enc)) = some (.bool (decide (xs = ys))) := by
  unfold dEq
  rw [if_pos (.inl (shal_map hd xs hn))]
  simp only [PyData.eqv, eqvAll_map h]
theorem ne_lists {α : Type} [DecidableEq α] {enc : α → PyData} {n : Nat} (h : ∀ a b, PyData.eqv (enc a) (enc b) = decide (a = b)) (hd : ∀ a, (enc a).depth = n) (xs ys : List α) (hn : n ≤ 99 := by decide) : dNe (.list (xs.map enc)) (.list (ys.map enc)) = some (.bool (!decide (xs = ys))) := by
  unfold dNe
  rw [if_pos (.inl (shal_map hd xs hn))]
  simp only [PyData.eqv, eqvAll_map h]
theorem any_map {α : Type} [DecidableEq α] {enc : α → PyData} (h : ∀ a b, PyData.eqv (enc a) (enc b) = decide (a = b)) (xs : List α) (x : α) : anyEq (xs.map enc) (enc x) = decide (x ∈ xs) := by
  unfold anyEq
  rw [List.any_map, Bool.eq_iff_iff, List.any_eq_true]
  constructor
  · rintro ⟨y, hy, e⟩
    have e' : y = x := by simpa [h] using e
    subst e'; simpa using hy
  · intro hx
    exact ⟨x, by simpa using hx, by simp [h]⟩
theorem in_list {α : Type} [DecidableEq α] {enc : α → PyData} {n : Nat} (h : ∀ a b, PyData.eqv (enc a) (enc b) = decide (a = b)) (hd : ∀ a, (enc a).depth = n) (xs : List α) (x : α) (hn : n ≤ 99 := by decide) : dIn (enc x) (.list (xs.map enc)) = some (.bool (decide (x ∈ xs))) := by
  unfold dIn
  simp only
  rw [if_pos (.inl (shal_map hd xs hn)), any_map h]
theorem notIn_list {α : Type} [DecidableEq α] {enc : α → PyData} {n : Nat} (h : ∀ a b, PyData.eqv (enc a) (enc b) = decide (a = b)) (hd : ∀ a, (enc a).depth = n) (xs : List α) (x : α) (hn : n ≤ 99 := by decide) : dNotIn (enc x) (.list (xs.map enc)) = some (.bool (!decide (x ∈ xs))) := by
  unfold dNotIn
  simp only
  rw [if_pos (.inl (shal_map hd xs hn)), any_map h]
theorem in_tup {α : Type} [DecidableEq α] {enc : α → PyData} {n : Nat} (h : ∀ a b, PyData.eqv (enc a) (enc b) = decide (a = b)) (hd : ∀ a, (enc a).depth = n) (xs : List α) (x : α) (hn : n ≤ 99 := by decide) : dIn (enc x) (.tuple (xs.map enc)) = some (.bool (decide (x ∈ xs))) := by
  unfold dIn
  simp only
  rw [if_pos (.inl (shal_mapT hd xs hn)), any_map h]
theorem notIn_tup {α : Type} [DecidableEq α] {enc : α → PyData} {n : Nat} (h : ∀ a b, PyData.eqv (enc a) (enc b) = decide (a = b)) (hd : ∀ a, (enc a).depth = n) (xs : List α) (x : α) (hn : n ≤ 99 := by decide) : dNotIn (enc x) (.tuple (xs.map enc)) = some (.bool (!decide (x ∈ xs))) := by
  unfold dNotIn
  simp only
  rw [if_pos (.inl (shal_mapT hd xs hn)), any_map h]

@[simp] theorem eq_nil {xs : List PyData} : dEq (.list xs) (.list []) = some (.bool xs.isEmpty) := by
  unfold dEq
  rw [if_pos (.inr rfl)]
  cases xs <;> rfl
@[simp] theorem ne_nil {xs : List PyData} : dNe (.list xs) (.list []) = some (.bool (!xs.isEmpty)) := by
  unfold dNe
  rw [if_pos (.inr rfl)]
  cases xs <;> rfl
@[simp] theorem eqB {a b : Bool} : dEq (.bool a) (.bool b) = some (.bool (a == b)) := by
  unfold dEq
  rw [if_pos (.inl rfl)]
  simp only [PyData.eqv]
@[simp] theorem neB {a b : Bool} : dNe (.bool a) (.bool b) = some (.bool (!(a == b))) := by
  unfold dNe
  rw [if_pos (.inl rfl)]
  simp only [PyData.eqv]
theorem eq_enc {α : Type} [DecidableEq α] {enc : α → PyData} {n : Nat} (h : ∀ a b, PyData.eqv (enc a) (enc b) = decide (a = b)) (hd : ∀ a, (enc a).depth = n) (a b : α) (hn : n ≤ 99 := by decide) : dEq (enc a) (enc b) = some (.bool (decide (a = b))) := by
  unfold dEq
  rw [if_pos (.inl (shal_of (hd a) (by omega))), h]
theorem ne_enc {α : Type} [DecidableEq α] {enc : α → PyData} {n : Nat} (h : ∀ a b, PyData.eqv (enc a) (enc b) = decide (a = b)) (hd : ∀ a, (enc a).depth = n) (a b : α) (hn : n ≤ 99 := by decide) : dNe (enc a) (enc b) = some (.bool (!decide (a = b))) := by
  unfold dNe
  rw [if_pos (.inl (shal_of (hd a) (by omega))), h]
/-! ### the order of tuples -/
def ltAll (xs ys : List PyData) : Bool := PyProof.Rows.lexLt itemOrd (PySem.W.keyToksAll xs) (PySem.W.keyToksAll ys)
theorem lt_tuple (xs ys : List PyData) : PySem.W.dataLt (.tuple xs) (.tuple ys) = ltAll xs ys := PySem.W.dataLt_tuple xs ys
theorem ltAll_nil : ltAll [] [] = false := by
  unfold ltAll
  cases h : PyProof.Rows.lexLt itemOrd (PySem.W.keyToksAll []) (PySem.W.keyToksAll []) with
  | false => rfl
  | true => simp [PySem.W.keyToksAll, PyProof.Rows.lexLt] at h <;> revert h <;> decide
theorem ltAll_nilC {y : PyData} {ys : List PyData} : ltAll [] (y :: ys) = true := by
  unfold ltAll
  rw [PySem.W.toks_all_cons]
  simp only [PySem.W.keyToksAll]
  rw [PySem.W.lex_atom (by simp) _ _]
  decide
theorem ltAll_consN {x : PyData} {xs : List PyData} : ltAll (x :: xs) [] = false := by
  unfold ltAll
  rw [PySem.W.toks_all_cons]
  simp only [PySem.W.keyToksAll]
  rw [PySem.W.lex_atom (by simp) _ _]
  decide
theorem ltAll_cons {x y : PyData} {xs ys : List PyData} (h : PySem.W.alike x y = true) : ltAll (x :: xs) (y :: ys) = if PyData.eqv x y = true then ltAll xs ys else PySem.W.dataLt x y := by
  unfold ltAll
  cases e : PyData.eqv x y with
  | true => rw [PySem.W.dataLt_all_yes h e]; simp
  | false => rw [PySem.W.dataLt_all_no h e]; simp
/-- an earlier row -/
def rowLt (a b : Row) : Bool := decide (a.1 < b.1 ∨ (a.1 = b.1 ∧ ((a.2.1 = false ∧ b.2.1 = true) ∨ (a.2.1 = b.2.1 ∧ a.2.2 < b.2.2))))
theorem lt_side (a b : Bool) : PySem.W.dataLt (.str (sideS a)) (.str (sideS b)) = decide (a = false ∧ b = true) := by
  rw [PySem.W.dataLt_str]
  cases a <;> cases b <;> decide +kernel
theorem lt_row (a b : Row) : PySem.W.dataLt (eRow a) (eRow b) = rowLt a b := by
  obtain ⟨a1, a2, a3⟩ := a
  obtain ⟨b1, b2, b3⟩ := b
  unfold eRow rowLt
  rw [lt_tuple, ltAll_cons rfl, ltAll_cons rfl, ltAll_cons rfl, ltAll_nil]
  simp only [PyData.eqv, PySem.W.dataLt_int, lt_side]
  rw [Bool.eq_iff_iff]
  by_cases h1 : a1 = b1
  · subst h1
    by_cases h2 : a2 = b2
    · subst h2
      by_cases h3 : a3 = b3
      · subst h3; simp
      · have h4 : ¬ ((a3 : Int) = b3) := by omega
        cases a2 <;> simp [h4]
    · have h4 : ¬ (sideS a2 = sideS b2) := fun z => h2 (side_inj.mp z)
      cases a2 <;> cases b2 <;> simp_all
  · simp [h1]
def rowLe (a b : Row) : Bool := !rowLt b a
theorem alike_row (a b : Row) : PySem.W.alike (eRow a) (eRow b) = true := by simp [eRow, PySem.W.alike, PySem.W.alikeAll]
theorem rowLt_trans {a b c : Row} (h : rowLe a b = true) (h' : rowLe b c = true) : rowLe a c = true := by
  obtain ⟨a1, a2, a3⟩ := a
  obtain ⟨b1, b2, b3⟩ := b
  obtain ⟨c1, c2, c3⟩ := c
  simp only [rowLe, rowLt, Bool.not_eq_true', decide_eq_false_iff_not] at *
  cases a2 <;> cases b2 <;> cases c2 <;> simp at * <;> omega
theorem rowLe_total (a b : Row) : (rowLe a b || rowLe b a) = true := by
  obtain ⟨a1, a2, a3⟩ := a
  obtain ⟨b1, b2, b3⟩ := b
  simp only [rowLe, rowLt, Bool.or_eq_true, Bool.not_eq_true', decide_eq_false_iff_not]
  cases a2 <;> cases b2 <;> simp <;> omega
theorem rowLt_of {a b : Row} (h : rowLe a b = true) (hn : a.2 ≠ b.2) : rowLt a b = true := by
  obtain ⟨a1, a2, a3⟩ := a
  obtain ⟨b1, b2, b3⟩ := b
  simp only [rowLe, rowLt, Bool.not_eq_true', decide_eq_false_iff_not, decide_eq_true_eq] at *
  cases a2 <;> cases b2 <;> simp at * <;> omega
/-- all rows: a day, a mark -/
def rowsOf (s : Bool) (es : List Entry) : List Row := es.mapIdx fun i e => (e.1, (s, i))
def rows (banks books : List Entry) : List Row := rowsOf false banks ++ rowsOf true books
def sortedRows (banks books : List Entry) : List Row := (rows banks books).mergeSort rowLe
theorem rowsOf_marks (s : Bool) (es : List Entry) : (rowsOf s es).map (·.2) = (List.range es.length).map fun i => (s, i) := by
  apply List.ext_getElem?
  intro i
  simp only [rowsOf, List.getElem?_map, List.getElem?_mapIdx]
  by_cases h : i < es.length
  · simp [h]
  · simp [h, List.getElem?_eq_none (Nat.le_of_not_lt h)]
theorem rows_nodup (banks books : List Entry) : ((rows banks books).map (·.2)).Nodup := by
  unfold rows
  rw [List.map_append, rowsOf_marks, rowsOf_marks, List.nodup_append]
  refine ⟨?_, ?_, ?_⟩
  · exact (List.nodup_range).map (f := fun i => (false, i)) fun a b h => by simpa using h
  · exact (List.nodup_range).map (f := fun i => (true, i)) fun a b h => by simpa using h
  · intro a ha b hb e
    obtain ⟨i, _, rfl⟩ := List.mem_map.mp ha
    obtain ⟨j, _, rfl⟩ := List.mem_map.mp hb
    cases e
theorem sorted_strict (banks books : List Entry) : (sortedRows banks books).Pairwise fun a b => rowLt a b = true := by
  have h1 : (sortedRows banks books).Pairwise fun a b => rowLe a b = true := List.pairwise_mergeSort (le := rowLe) (fun _ _ _ => rowLt_trans) rowLe_total _
  have h2 : ((sortedRows banks books).map (·.2)).Nodup := ((List.mergeSort_perm _ _).map _).nodup_iff.mpr (rows_nodup banks books)
  have h3 : (sortedRows banks books).Pairwise fun a b => a.2 ≠ b.2 := List.pairwise_map.mp h2
  exact (h1.and h3).imp fun ⟨x, y⟩ => rowLt_of x y
theorem sort_rows (rs : List Row) : dSorted [.list (rs.map eRow)] = some ((rs.mergeSort rowLe).map eRow) := by
  unfold dSorted
  have hok : sortOk (rs.map eRow) = true := by
    unfold sortOk
    simp only [Bool.and_eq_true, Bool.or_eq_true, List.all_eq_true, List.mem_map]
    refine ⟨⟨?_, .inl ?_⟩, ?_⟩
    · rintro x ⟨a, _, rfl⟩ y ⟨b, _, rfl⟩; exact alike_row a b
    · rintro x ⟨a, _, rfl⟩; rfl
    · rintro x ⟨a, _, rfl⟩; exact shal_of (depth_row a)
  simp only [hok, if_true]
  congr 1
  refine (PySem.W.sort_maps eRow fun a _ b _ => ?_).symm
  rw [PySem.W.dataLe_eq]
  simp only [id, cond_false, lt_row, rowLe]
theorem sorted_length (banks books : List Entry) : (sortedRows banks books).length = banks.length + books.length := by
  unfold sortedRows rows
  rw [(List.mergeSort_perm _ _).length_eq, List.length_append]
  simp [rowsOf]
theorem sorted_mem {banks books : List Entry} {r : Row} : r ∈ sortedRows banks books ↔ r ∈ rows banks books := (List.mergeSort_perm _ _).mem_iff
theorem row_mem {banks books : List Entry} {r : Row} (h : r ∈ rows banks books) : (if r.2.1 = true then books else banks)[r.2.2]?.map (·.1) = some r.1 := by
  unfold rows at h
  rcases List.mem_append.mp h with h | h
  · obtain ⟨i, hi, e⟩ := List.mem_mapIdx.mp h
    subst e
    simp [hi]
  · obtain ⟨i, hi, e⟩ := List.mem_mapIdx.mp h
    subst e
    simp [hi]
/-! ### groups, as the rows go by -/
def gStep (span : Int) (s : List (List Row) × Int) (r : Row) : List (List Row) × Int :=
  if s.1 = [] ∨ r.1 - s.2 > span then (s.1 ++ [[r]], r.1) else (s.1.dropLast ++ [(s.1.getLast?.getD []) ++ [r]], r.1)
def groupsR (span : Int) (rs : List Row) : List (List Row) := (rs.foldl (gStep span) ([], 0)).1
def eG (g : List Row) : PyData := .list (g.map fun r => eMark r.2)
/-- what holds of groups: no day in one is more than the span beyond the one ahead, from one to the next it is -/
structure Gaps (span : Int) (gs : List (List Row)) : Prop where
  ne : ∀ g, g ∈ gs → g ≠ []
  within : ∀ (g : List Row) (k : Nat) (r s : Row), g ∈ gs → g[k]? = some r → g[k + 1]? = some s → s.1 - r.1 ≤ span
  across : ∀ (a b : List (List Row)) (g : List Row) (r s : Row), gs = a ++ g :: b → a.flatten.getLast? = some r → g[0]? = some s → s.1 - r.1 > span
theorem gStep_inv {span : Int} {pre : List Row} {s : List (List Row) × Int} (r : Row) (h1 : s.1.flatten = pre) (h2 : Gaps span s.1) (h3 : ∀ q, pre.getLast? = some q → s.2 = q.1) :
    (gStep span s r).1.flatten = pre ++ [r] ∧ Gaps span (gStep span s r).1 ∧ (gStep span s r).2 = r.1 := by
  obtain ⟨gs, last⟩ := s
  subst h1
  unfold gStep
  simp only at h2 h3 ⊢
  by_cases hc : gs = [] ∨ r.1 - last > span
  · rw [if_pos hc]
    refine ⟨by simp, ⟨fun g hg => ?_, fun g k x y hg e1 e2 => ?_, fun a b g x y e e1 e2 => ?_⟩, rfl⟩
    · rcases List.mem_append.mp hg with hg | hg
      · exact h2.ne g hg
      · rw [List.mem_singleton.mp hg]; simp
    · rcases List.mem_append.mp hg with hg | hg
      · exact h2.within g k x y hg e1 e2
      · rw [List.mem_singleton.mp hg] at e2; simp at e2
    · rcases List.eq_nil_or_concat b with rfl | ⟨b', z, rfl⟩
      · have e' : gs = a ∧ [r] = g := by
          have := List.append_inj' (s₁ := gs) (s₂ := a) (t₁ := [[r]]) (t₂ := [g]) e rfl
          exact ⟨this.1, by simpa using this.2⟩
        obtain ⟨rfl, rfl⟩ := e'
        have ey : r = y := by simpa using e2
        subst ey
        rcases hc with rfl | hc
        · simp at e1
        · rw [h3 x e1] at hc; exact hc
      · have e' : gs = a ++ g :: b' := by
          have e2 : gs ++ [[r]] = (a ++ g :: b') ++ [z] := (show gs ++ [[r]] = a ++ g :: b'.concat z from e).trans (by simp)
          exact (List.append_inj' e2 rfl).1
        exact h2.across a b' g x y e' e1 e2
  · rw [if_neg hc]
    have hne : gs ≠ [] := fun z => hc (.inl z)
    obtain ⟨ini, g0, rfl⟩ : ∃ ini g0, gs = ini ++ [g0] := ⟨gs.dropLast, gs.getLast hne, (List.dropLast_concat_getLast hne).symm⟩
    simp only [List.getLast?_append, List.getLast?_singleton, Option.some_or, Option.getD_some, List.dropLast_concat]
    have hg0 : g0 ≠ [] := h2.ne g0 (by simp)
    have hlast : r.1 - last ≤ span := by
      by_cases z : r.1 - last > span
      · exact absurd (.inr z) hc
      · omega
    refine ⟨by simp, ⟨fun g hg => ?_, fun g k x y hg e1 e2 => ?_, fun a b g x y e e1 e2 => ?_⟩, trivial⟩
    · rcases List.mem_append.mp hg with hg | hg
      · exact h2.ne g (by simp [hg])
      · rw [List.mem_singleton.mp hg]; simp
    · rcases List.mem_append.mp hg with hg | hg
      · exact h2.within g k x y (by simp [hg]) e1 e2
      · rw [List.mem_singleton.mp hg] at e1 e2
        by_cases hk : k + 1 < g0.length
        · rw [List.getElem?_append_left hk] at e2
          rw [List.getElem?_append_left (by omega)] at e1
          exact h2.within g0 k x y (by simp) e1 e2
        · have hk2 : k + 1 = g0.length := by
            have := (List.getElem?_eq_some_iff.mp e2).1
            simp at this; omega
          have ey : r = y := by
            rw [List.getElem?_append_right (by omega), hk2, Nat.sub_self] at e2
            simpa using e2
          subst ey
          rw [List.getElem?_append_left (by omega)] at e1
          have ex : (ini ++ [g0]).flatten.getLast? = some x := by
            rw [List.flatten_append, List.flatten_singleton, List.getLast?_append]
            have : g0.getLast? = some x := by rw [List.getLast?_eq_getElem?, show g0.length - 1 = k by omega]; exact e1
            rw [this]; rfl
          rw [h3 x ex] at hlast; exact hlast
    · rcases List.eq_nil_or_concat b with rfl | ⟨b', z, rfl⟩
      · have e' : ini = a ∧ g0 ++ [r] = g := by
          have := List.append_inj' (s₁ := ini) (s₂ := a) (t₁ := [g0 ++ [r]]) (t₂ := [g]) e rfl
          exact ⟨this.1, by simpa using this.2⟩
        obtain ⟨rfl, rfl⟩ := e'
        have ey : g0[0]? = some y := by
          rw [List.getElem?_append_left (by cases g0 with | nil => exact absurd rfl hg0 | cons _ _ => simp)] at e2
          exact e2
        exact h2.across ini [] g0 x y rfl e1 ey
      · have e' : ini = a ++ g :: b' := by
          have e2 : ini ++ [g0 ++ [r]] = (a ++ g :: b') ++ [z] := (show ini ++ [g0 ++ [r]] = a ++ g :: b'.concat z from e).trans (by simp)
          exact (List.append_inj' e2 rfl).1
        exact h2.across a (b' ++ [g0]) g x y (by rw [e']; simp) e1 e2
theorem groups_fold {span : Int} : ∀ (post pre : List Row) (s : List (List Row) × Int), s.1.flatten = pre → Gaps span s.1 → (∀ q, pre.getLast? = some q → s.2 = q.1) →
    (post.foldl (gStep span) s).1.flatten = pre ++ post ∧ Gaps span (post.foldl (gStep span) s).1
  | [], pre, s, h1, h2, _ => ⟨by simpa using h1, h2⟩
  | r :: post, pre, s, h1, h2, h3 => by
    obtain ⟨i1, i2, i3⟩ := gStep_inv r h1 h2 h3
    have ih := groups_fold post (pre ++ [r]) (gStep span s r) i1 i2 fun q hq => by
      have : r = q := by simpa using hq
      rw [← this]; exact i3
    simpa using ih
theorem gaps_nil {span : Int} : Gaps span [] := ⟨fun g h => absurd h (by simp), fun g k r s h => absurd h (by simp), fun a b g r s e => by simp at e⟩
theorem groups_flat (span : Int) (rs : List Row) : (groupsR span rs).flatten = rs := by
  have := (groups_fold (span := span) rs [] ([], 0) rfl gaps_nil (fun q h => by simp at h)).1
  simpa [groupsR] using this
theorem groups_gaps (span : Int) (rs : List Row) : Gaps span (groupsR span rs) := (groups_fold (span := span) rs [] ([], 0) rfl gaps_nil (fun q h => by simp at h)).2
theorem flat_len {gs : List (List Row)} (h : ∀ g, g ∈ gs → g ≠ []) : gs.length ≤ gs.flatten.length := by
  induction gs with
  | nil => simp
  | cons g gs ih =>
    have h1 := ih fun x hx => h x (by simp [hx])
    have h2 : g ≠ [] := h g (by simp)
    have h3 : 0 < g.length := List.length_pos_iff.mpr h2
    simp only [List.length_cons, List.flatten_cons, List.length_append]
    omega
theorem num_map {α : Type} (enc : α → PyData) (xs : List α) : numbered (xs.map enc) = (xs.mapIdx fun i x => (i, x)).map fun p => .tuple [.int p.1, enc p.2] := by
  apply List.ext_getElem?
  intro i
  simp [numbered, List.getElem?_mapIdx]
  cases xs[i]? <;> rfl
end Dat
open PySem PySem.Spec PyProof.Rows L2
namespace Dat
section
variable {W : XK} {X : Cx} {e a b : Expr} {es : List Expr} {pos pos' p : Pos} {O O' OL : Os} {F F' : Fd} {L : Fl}
/-! ### list(range(n)) -/
def lrF (F : Fd) : Fl := fun ρ => match F ρ with
  | some (.int n) => if 0 ≤ n ∧ n ≤ 16777216 then some (upFrom 0 n.toNat) else none
  | _ => none
theorem lrF_some {ρ : Dv} {ds : List PyData} (h : lrF F ρ = some ds) : ∃ n, F ρ = some (.int n) ∧ 0 ≤ n ∧ n ≤ 16777216 ∧ ds = upFrom 0 n.toNat := by
  unfold lrF at h
  split at h
  · split at h
    · rename_i h1 h2
      cases h; exact ⟨_, h1, h2.1, h2.2, rfl⟩
    · cases h
  · cases h
theorem rg_dp {K : PySem.W.Frag} {G : Hp} {n : Int} : DpAll K G (rgV 0 n) (upFrom 0 n.toNat) := by
  unfold rgV upFrom
  rw [show n - 0 = n by omega]
  generalize List.range n.toNat = l
  induction l with
  | nil => exact .nil
  | cons i l ih => exact .cons (.int _) ih
theorem o_listRg {p1 p2 p3 : Pos} (hc : X.calm = true) (hg : Gl X "list") (hm : X.mg "list" = none) (hg2 : Gl X "range") (hm2 : X.mg "range" = none) (ha : PE X a (RB X.K O F))
    (n1 : starEach [a] X.env = (false, eval a X.env) :: starEach [] X.env := by rfl) (n2 : starEach [.Call (.Name "range" p1) [a] [] p2] X.env = (false, eval (.Call (.Name "range" p1) [a] [] p2) X.env) :: starEach [] X.env := by rfl) :
    PE X (.Call (.Name "list" p3) [.Call (.Name "range" p1) [a] [] p2] [] pos) (RO X.K O (lrF F)) :=
  pe_imp (pe_listRg hc hg hm (prg_1 hg2 hm2 ha n1) n2) fun σ H Q ⟨Γ, G, ρ, ds, R, ef, q⟩ => by
    obtain ⟨n, e1, h0, h1, rfl⟩ := lrF_some ef
    refine ⟨Γ, G, ρ, _, R, e1, fun v G' H' s bd => ⟨n, bd.int, RgOk.of_le (by omega) h1 (by omega) h0, fun c hc => ?_⟩⟩
    have hcH : H c = none := s.hh.free hc
    exact q c _ G' _ (s.trans (Stp.new s.gh hc)) hcH (s.gh.free hc) upd_same rg_dp
/-! ### x.append(y.pop(i)) -/
def appPopS (i j : Nat) (F : Fd) : Bs := fun ρ => match dvGet ρ i, dvGet ρ j, F ρ with
  | some (.list ds), some (.list es), some (.int n) => if ds.length < 16777216 ∧ 0 ≤ n ∧ n < 16777216 then match es[n.toNat]? with
      | some d => some (.nx ((ρ.set j (some (.list (es.eraseIdx n.toNat)))).set i (some (.list (ds ++ [d])))))
      | none => none
    else none
  | _, _, _ => none
theorem appPopS_some {i j : Nat} {ρ : Dv} {r : Res} (h : appPopS i j F ρ = some r) : ∃ ds es n d, dvGet ρ i = some (.list ds) ∧ dvGet ρ j = some (.list es) ∧ F ρ = some (.int n) ∧ ds.length < 16777216 ∧ 0 ≤ n ∧ n < 16777216 ∧ es[n.toNat]? = some d ∧
    r = .nx ((ρ.set j (some (.list (es.eraseIdx n.toNat)))).set i (some (.list (ds ++ [d])))) := by
  unfold appPopS at h
  split at h
  · rename_i ds es n e1 e2 e3
    split at h
    · rename_i hc
      split at h
      · cases h; exact ⟨ds, es, n, _, e1, e2, e3, hc.1, hc.2.1, hc.2.2, by assumption, rfl⟩
      · cases h
    · cases h
  · cases h
theorem Own.isLst {K : PySem.W.Frag} {G H : Hp} {v : V} {fp : List Addr} {ds : List PyData} (o : Own K G H .lst v fp (.list ds)) : ∃ p xs, v = .ref p ∧ fp = [p] ∧ H p = some (.lst xs) ∧ DpAll K G xs ds := by
  cases o with
  | lst hp da => exact ⟨_, _, rfl, rfl, hp, da⟩
theorem s_appPop {y z : Str} {pz apos cpos apos2 cpos2 : Pos} (i j : Nat) (hi : (i, Kd.lst) ∈ O) (hj : (j, Kd.lst) ∈ O) (hne : i ≠ j)
    (hb : PE X (.Call (.Attribute (.Name y pos') "append" apos) [.Call (.Attribute (.Name z pz) "pop" apos2) [e] [] cpos2] [] cpos) (tBM X.K "list" rAppend (tVar i) (tCons (tBM X.K "list" rPopAt (tVar j) (tCons (RB X.K O F) tNil)) tNil)))
    (hs : swapsWith (.Call (.Attribute (.Name y pos') "append" apos) [.Call (.Attribute (.Name z pz) "pop" apos2) [e] [] cpos2] [] cpos) none pos.line X.env = pure false := by rfl) :
    PS X (.Expr (.Call (.Attribute (.Name y pos') "append" apos) [.Call (.Attribute (.Name z pz) "pop" apos2) [e] [] cpos2] [] cpos) pos) (RS X.K W O O OL (appPopS i j F)) := ps_imp (ps_expr hb hs) fun D σ H ⟨Γ, G, ρ, r, R, er, f⟩ => by
  obtain ⟨ds, es, n, d, e1, e2, e3, hl, h0, h1, hd, rfl⟩ := appPopS_some er
  have e1' := dvGet_some e1
  have e2' := dvGet_some e2
  obtain ⟨w, fp, f2, o, nn, _⟩ := R.change hi e1'
  obtain ⟨w2, fp2, g2, o2, nn2, _⟩ := R.change hj e2'
  obtain ⟨p, xs, rfl, rfl, hp, da⟩ := o.isLst
  obtain ⟨p2, xs2, rfl, rfl, hp2, da2⟩ := o2.isLst
  refine ⟨_, f2, .inl ⟨rfl, _, SqL.of hp⟩, _, g2, .inl ⟨rfl, _, SqL.of hp2⟩, Γ, G, ρ, _, R, e3, fun v G' H' s dv => ?_⟩
  have R1 := R.stp s
  obtain ⟨w2', fp2', g2', o2', nn2', ch2⟩ := R1.change hj e2'
  rw [g2] at g2'; cases g2'
  obtain ⟨p2', xs2', er2, rfl, hp2', da2'⟩ := o2'.isLst
  cases er2
  obtain ⟨vy, hv1, hv2⟩ := da2'.get hd
  refine ⟨p2, xs2', n, n.toNat, vy, rfl, by rw [dv.int], hp2', by omega, by omega, ?_, hv1, ?_⟩
  · unfold seqIndex?
    have hlt : n.toNat < xs2'.length := (List.getElem?_eq_some_iff.mp hv1).1
    simp only [show ¬ n < 0 by omega, if_false]
    rw [if_pos (by simp; omega)]
  · have R2 := ch2 G' H' (upd H' p2 (.lst (xs2'.eraseIdx n.toNat))) [p2] _ (Stp.refl R1.gh) (fun a ha => (nn2' a ha).2) (.lst upd_same (da2'.eraseIdx n.toNat)) (fun a ha _ => upd_ne fun z => ha (by simp [z])) fun a ha => .inl ha
    have e1'' : (ρ.set j (some (.list (es.eraseIdx n.toNat))))[i]? = some (some (.list ds)) := by rw [List.getElem?_set_ne (Ne.symm hne)]; exact e1'
    obtain ⟨w', fp', f2', o', nn', ch⟩ := R2.change hi e1''
    rw [f2] at f2'; cases f2'
    obtain ⟨p', xs', er3, rfl, hp', da'⟩ := o'.isLst
    cases er3
    refine ⟨p, xs', vy, rfl, rfl, hp', by rw [da'.length, line_eq]; exact hl, ?_⟩
    refine f σ G' _ (ch G' _ _ [p] _ (Stp.refl R2.gh) (fun a ha => (nn' a ha).2) (.lst upd_same (da'.append (.cons hv2 .nil))) (fun a ha _ => upd_ne fun z => ha (by simp [z])) fun a ha => .inl ha)
end
end Dat
open PySem PySem.Spec PyProof.Rows L2
namespace Dat
/-! ### sorted(xs, key=f), f a known def -/
/-- the key of an item -/
def keyD (g : List PyData → Option PyData) (d : PyData) : PyData := (g [d]).getD .none
/-- keys that can be sorted by -/
def sortOkW (ks : List PyData) : Bool := sortOk ks
def dSortK (g : List PyData → Option PyData) : List PyData → Option (List PyData)
  | [.list xs] => if (xs.all fun x => (g [x]).isSome) && sortOk (xs.map (keyD g)) then some (xs.mergeSort (PySem.W.dataLe false (keyD g))) else none
  | _ => none
/-- list.sort by a def's keys, in the layer -/
theorem keyS_rest {X : Cx} {pins : List (Addr × Obj)} {σ : L2.St} {j : Nat} {f : Addr} {fd : FuncData} {p : Str} {g : List PyData → Option PyData} {A : Around} {a kS : Addr} {e1 : Nat} {E : Value → Shared → Prop}
    (F : FnOk X.prog X.w X.K X.mg X.base CX0 j f fd [p] (spD X.K g)) (hb : Binds X.K fd [p] []) (hr : Room j A) (hA : ∀ s H, Env0 X.prog X.w X.K X.mg X.base X.A X.stack s H → Env0 X.prog X.w X.K X.mg X.base A X.stack s H)
    {G H : Hp} {s : Shared} {its : List Value} {xs : List V} {ds : List PyData} {P : PySem.Fin → Shared → Prop}
    (I : L2.Inv X ((a, seqObj "list" #[] e1) :: pins) σ (upd H kS (.lst [])) s) (gh : Same G H) (hkH : H kS = none) (hka : kS ≠ a) (hkG : G kS = none)
    (rv : Vals xs its) (da : DpAll X.K G xs ds) (hZ : ds.length ≤ sizeLine) (hall : ∀ d, d ∈ ds → (g [d]).isSome = true) (hal : PySem.W.AllAlike (ds.map (keyD g))) (hsk : PySem.W.Sortable (ds.map (keyD g))) (hu : ∀ d, d ∈ ds.map (keyD g) → A.units + d.depth < cLine)
    (h : ∀ (G' H' : Hp) (s' : Shared) (ks : List V), L2.Inv X ((a, seqObj "list" #[] e1) :: pins) σ H' s' → Stp G H G' H' → H' kS = some (.lst ks) → G' kS = none → ∃ h₁ : Heap, PySem.W.KeepsBut a h₁ s'.heap ∧ h₁.get? kS = none ∧ ∀ (h' : Heap) (tk : Nat) (out : List Value) (c : Nat), PySem.W.KeepsBut a h₁ h' → h'.get? a = some (seqObj "list" (List.toArray out) c) → PySem.W.KeyedOut false (ds.map (keyD g)) its out → P (.done (.ret .none)) { s' with heap := h', toks := tk }) :
    wpAny (model X.prog X.w) A (ksk_rest a (.ref f) false its.toArray e1 (.ref kS)) P E s := by
  unfold ksk_rest
  refine wpAny_bind (wpAny_rule ?_)
  first
    | rw [List.forIn_toArray]
    | (rw [← Array.forIn_toList]; simp only [List.toList_toArray])
    | rw [← Array.forIn_toList]
  refine wpAny_bind (ksk_fold (fun i s' => ∃ G' H' ks, L2.Inv X ((a, seqObj "list" #[] e1) :: pins) σ H' s' ∧ Stp G H G' H' ∧ H' kS = some (.lst ks) ∧ G' kS = none ∧ DpAll X.K G' ks ((ds.map (keyD g)).take i)) its 0 s
    ⟨G, _, [], I, Stp.new gh hkH, upd_same, hkG, by rw [List.take_zero]; exact .nil⟩ ?step ?done)
  case step =>
    rintro i u s' hx ⟨G', H', ks, I', st, hk, gk, dk⟩
    simp only [Nat.zero_add] at dk ⊢
    obtain ⟨v, hv, rvu⟩ : ∃ v, xs[i]? = some v ∧ RelV v u := by
      have hlen := rv.length
      have hi : i < xs.length := by rw [hlen]; exact (List.getElem?_eq_some_iff.mp hx).1
      obtain ⟨u', hu', r⟩ := rv.get (List.getElem?_eq_getElem hi)
      rw [hx] at hu'; cases hu'
      exact ⟨_, List.getElem?_eq_getElem hi, r⟩
    obtain ⟨d, hd, dv⟩ := da.getV hv
    have hmem := List.mem_of_getElem? hd
    have hg := hall d hmem
    obtain ⟨kd, hkd⟩ := Option.isSome_iff_exists.mp hg
    have hkk : keyD g d = kd := by unfold keyD; rw [hkd]; rfl
    refine wpAny_bind (wpAny_attempt (wpAny_call (codeAny_mono (F.run A X.stack s' H' ⟨[u], []⟩ [u] [v] (fun y H2 => ∃ G2, Stp G' H' G2 H2 ∧ Dp X.K G2 y kd) E0 hr (hA _ _ I'.env0) ?_ (.cons rvu .nil) ⟨G', [d], kd, st.gh, .cons (dp_mono st.gg _ _ dv) .nil, hkd, fun y G2 H2 s2 d2 => ⟨G2, s2, d2⟩⟩) fun r s'' hq => ?_)))
    · have := hb s' [u] I'.kIn rfl
      simpa using this
    cases r with
    | error e => exact False.elim hq
    | ok fl =>
      cases fl with
      | next => exact False.elim hq
      | brk => exact False.elim hq
      | cont => exact False.elim hq
      | ret w =>
        obtain ⟨y, H2, I2, ry, G2, s2, d2⟩ := I'.after hq
        have hk2 : H2 kS = some (.lst ks) := s2.hh _ _ hk
        have gk2 : G2 kS = none := s2.sep kS (by rw [hk]; exact fun z => nomatch z) gk
        obtain ⟨z2, ws, n, rw2, lw, ew⟩ := I2.lstM hk2
        have hil : i < ds.length := (List.getElem?_eq_some_iff.mp hd).1
        have hkl : ks.length ≤ i := by rw [dk.length, List.length_take]; omega
        have hz : ws.toArray.size ≤ sizeLine := by rw [List.size_toArray, ← lw]; omega
        refine wpAny_bind (listUpdate_at ew rfl ?_ hz (by rw [Array.size_push]; omega))
        refine wpAny_pure ⟨rfl, G2, upd H2 kS (.lst (ks ++ [y])), ks ++ [y], I2.lset (its' := ws ++ [w]) hk2 ew (by simp) (rw2.append (.cons ry .nil)) (by rw [List.length_append, List.length_singleton]; omega), ?_, upd_same, gk2, ?_⟩
        · have s3 := st.trans s2
          refine ⟨fun b o q => ?_, s3.gg, fun b o q => ?_, s3.sep⟩
          · rw [upd_ne (fun z => by subst z; rw [hkH] at q; cases q)]; exact s3.hh b o q
          · rw [upd_ne (fun z => by subst z; rw [gk2] at q; cases q)]; exact s3.gh b o q
        · have e3 : (ds.map (keyD g)).take (i + 1) = (ds.map (keyD g)).take i ++ [kd] := by
            rw [List.take_add_one, List.getElem?_map, hd]
            simp [hkk]
          rw [e3]
          exact (dpAll_mono s2.gg _ _ dk).append (.cons d2 .nil)
  case done =>
    rintro s' ⟨G', H', ks, I', st, hk, gk, dk⟩
    have e3 : (ds.map (keyD g)).take (0 + its.length) = ds.map (keyD g) := List.take_of_length_le (by rw [List.length_map, ← rv.length, da.length]; omega)
    rw [e3] at dk
    obtain ⟨z2, ws, n, rw2, lw, ew⟩ := I'.lstM hk
    have hsz : ws.toArray.size = its.length := by
      have l1 := dk.length
      rw [List.length_map] at l1
      rw [List.size_toArray, ← lw, l1, ← rv.length, da.length]
    have hr2 := each_dp rfl I' st.gh dk rw2
    have hr3 : PySem.W.EachIs (fun v k => ∃ as, Reads s'.heap v k as) ws.toArray.toList (ds.map (keyD g)) := hr2.mono fun _ _ ⟨_, _, _, z⟩ => z
    have ha := (I'.pin (a, seqObj "list" #[] e1) (by simp)).1
    refine wpAny_bind (listItems_at ew rfl ?_)
    obtain ⟨h₁, kp1, hkS, h⟩ := h G' H' s' ks I' st hk gk
    refine PySem.W.keyH_end (κ := PySem.W.dataKind s'.heap (ds.map (keyD g))) (h₁ := h₁) kp1 hkS ew ha hka (PySem.W.SortsAt.data hr3 hal hsk hu) hsz (by rw [← rv.length, da.length]; exact hZ) fun h3 tk3 c k3 n3 => ?_
    exact h h3 tk3 _ c k3 n3 ⟨s'.heap, ws.toArray.toList, hal, rfl, hr3⟩
/-- the same heap, another state beside it -/
theorem inv_heap {X : Cx} {pins : List (Addr × Obj)} {σ : L2.St} {H H2 : Hp} {pins2 : List (Addr × Obj)} {σ2 : L2.St} {s s' : Shared} {h' : Heap} {tk tk' : Nat} (J : L2.Inv X pins σ H { s with heap := h', toks := tk }) (I : L2.Inv X pins2 σ2 H2 s') : L2.Inv X pins σ H { s' with heap := h', toks := tk' } :=
  ⟨J.ok, I.os, I.bare, J.base, J.loc, J.cell, J.free, J.freeC, J.pin, J.hok, J.len⟩
/-- the heap read without some new objects, that are not tracked or are tracked lists -/
def dropH (bad : Addr → Bool) (H : Hp) : Hp := fun b => if bad b = true then none else H b
theorem dropH_ne {bad : Addr → Bool} {H : Hp} {b : Addr} (h : bad b = false) : dropH bad H b = H b := by unfold dropH; rw [h]; rfl
theorem dropH_bad {bad : Addr → Bool} {H : Hp} {b : Addr} (h : bad b = true) : dropH bad H b = none := by unfold dropH; rw [if_pos h]
theorem inv_drop {X : Cx} {pins pins' : List (Addr × Obj)} {σ : L2.St} {H : Hp} {s : Shared} {bad : Addr → Bool} (I : L2.Inv X pins σ H s) (h0 : ∀ b, bad b = true → X.s_0.heap.objs.size ≤ b) (hl : bad X.env.locals = false)
    (hc : ∀ x c, X.env.cells.lookup x = some c → bad c = false) (hp : ∀ p ∈ X.pn ++ pins', bad p.1 = false) (hs : ∀ p ∈ pins', p ∈ pins) (hH : ∀ b, bad b = true → H b = none ∨ ∃ xs, H b = some (.lst xs)) :
    ∃ G : Heap, (∀ b o, bad b = false → s.heap.get? b = some o → G.get? b = some o) ∧ (∀ b, bad b = true → G.get? b = none) ∧ (∀ b o, G.get? b = some o → s.heap.get? b = some o) ∧ L2.Inv X pins' σ (dropH bad H) { s with heap := G } := by
  obtain ⟨G, g1, g2⟩ := restrict s.heap fun b => !bad b
  have gk : ∀ b o, bad b = false → s.heap.get? b = some o → G.get? b = some o := fun b o hb e => by rw [g1 b (by rw [hb]; rfl)]; exact e
  have ga : ∀ b, bad b = true → G.get? b = none := fun b hb => g2 b (by rw [hb]; rfl)
  have ne0 : ∀ b o, X.s_0.heap.get? b = some o → bad b = false := fun b o e => by
    cases z : bad b with
    | false => rfl
    | true => exact absurd (Heap.lt_size e) (Nat.not_lt_of_le (h0 b z))
  have neX : ∀ b o, H b = some o → (∀ xs, o ≠ .lst xs) → bad b = false := fun b o e n => by
    cases z : bad b with
    | false => rfl
    | true =>
      rcases hH b z with q | ⟨xs, q⟩
      · rw [q] at e; cases e
      · rw [q] at e; cases e; exact absurd rfl (n xs)
  have cellK : ∀ x c, X.env.cells.lookup x = some c → ∀ v, s.heap.IsCell c v → G.IsCell c v := fun x c e v ⟨o, ho, hd⟩ => ⟨o, gk c o (hc x c e) ho, hd⟩
  have gs : ∀ b o, G.get? b = some o → s.heap.get? b = some o := fun b o e => by
    cases z : bad b with
    | false => rw [← g1 b (by rw [z]; rfl)]; exact e
    | true => rw [ga b z] at e; cases e
  refine ⟨G, gk, ga, gs, ⟨I.ok, I.os, I.bare, ⟨fun b o e n hb hq => ?_, fun b o e n hb hq => ?_, fun b o e n hq => ?_, fun b o e hq => ?_, fun b xs e => ?_, fun b o u e => ?_, fun b ps e => ?_⟩, ?_, fun x c e => ?_, ?_, fun x c e => ?_, fun p hpp => ?_, fun b u e => ?_, I.len⟩⟩
  · exact gk b o (ne0 b o e) (I.base.keep b o e n hb hq)
  · obtain ⟨sl, q⟩ := I.base.slot b o e n hb hq
    exact ⟨sl, gk b _ (ne0 b o e) q⟩
  · rw [dropH_ne (ne0 b o e)]
    exact I.base.free b o e n hq
  · obtain ⟨o', q⟩ := I.base.there b o e hq
    exact ⟨o', gk b o' (ne0 b o e) q⟩
  · have q := I.base.tups b xs e
    rw [dropH_ne (neX b _ q fun _ z => nomatch z)]
    exact q
  · have q := I.base.frzs b o u e
    rw [dropH_ne (neX b _ q fun _ z => nomatch z)]
    exact q
  · obtain ⟨m, q⟩ := I.base.tbls b ps e
    exact ⟨m, by rw [dropH_ne (neX b _ q fun _ z => nomatch z)]; exact q⟩
  · obtain ⟨m, ⟨o, es, ep, ho, r⟩, hl'⟩ := I.loc
    refine ⟨m, ⟨o, es, ep, gk _ _ hl ho, r⟩, fun i x v e1 e2 e3 => ?_⟩
    obtain ⟨u, r', l⟩ := hl' i x v e1 e2 e3
    refine ⟨u, r', ?_⟩
    rcases l with l | ⟨k, c, ec, z⟩
    · exact .inl l
    · exact .inr ⟨k, c, ec, cellK x c ec _ z⟩
  · obtain ⟨v, z⟩ := I.cell x c e
    exact ⟨v, cellK x c e v z⟩
  · rw [dropH_ne hl]
    exact I.free
  · rw [dropH_ne (hc x c e)]
    exact I.freeC x c e
  · have hb := hp p hpp
    obtain ⟨e, n, ne, nf, d⟩ := I.pin p ((List.mem_append.mp hpp).elim (fun z => List.mem_append_left _ z) fun z => List.mem_append_right _ (hs p z))
    exact ⟨gk _ _ hb e, by rw [dropH_ne hb]; exact n, ne, nf, d⟩
  · have hb : bad b = false := by
      cases z : bad b with
      | false => rfl
      | true => rw [dropH_bad z] at e; cases e
    rw [dropH_ne hb] at e
    refine (I.hok b u e).stay (fun c v hc q => gk c v ?_ q) (fun c q => ?_) fun c xs q => ?_
    · rcases hc with z | z
      · rw [z]; exact hb
      · exact neX _ _ z fun _ z => nomatch z
    · rw [dropH_ne (neX c _ q fun _ z => nomatch z)]; exact q
    · rw [dropH_ne (neX c _ q fun _ z => nomatch z)]; exact q
/-- sorted(xs, key=f) -/
theorem c_sortedK {X : Cx} {j : Nat} {f : Addr} {fd : FuncData} {p : Str} {g : List PyData → Option PyData} (F : FnOk X.prog X.w X.K X.mg X.base CX0 j f fd [p] (spD X.K g)) (hb : Binds X.K fd [p] []) (hr : Room (j + 2) X.A) :
    CallRK X (.builtin "sorted") [Str.ofString "key"] (fun vs zs H Q => zs = [.ref f] ∧ rLo X.K (dSortK g) vs H Q) := by
  intro pins s σ H vs zs us ws Q I r rz ⟨ez, G, ds, d, gh, b, eg, q⟩
  subst ez
  have hr2 : Room j X.A.in1.in1 := (show Room (j + 1) X.A.in1 from Room.in1 hr).in1
  unfold dSortK at eg
  split at eg
  · rename_i xs
    split at eg
    · rename_i hok
      cases eg
      rw [Bool.and_eq_true] at hok
      obtain ⟨v, rfl, bv⟩ := b.one
      obtain ⟨l, vs', rfl, hp, da⟩ := bv.list gh
      rw [Vals.ref1 r, Vals.ref1 rz]
      obtain ⟨its, rv, pl, hz⟩ := I.list hp
      obtain ⟨k1, k2, k3⟩ := sortOk_of hok.2
      have hall : ∀ d, d ∈ xs → (g [d]).isSome = true := by simpa using hok.1
      have hl : xs.length = vs'.length := da.length.symm
      have ha0 : s.heap.objs.size ≤ s.heap.objs.size + 1 := Nat.le_succ _
      show wpAny (model X.prog X.w) X.A (call (.builtin "sorted") [.ref l] [(Str.ofString "key", .ref f)]) _ _ _
      refine PySem.W.sorted_of_sort pl.isList (by rw [← rv.length]; exact hz) (ksk_s1 _ _) (fun _ => ksk_l1 _ _) fun E' => ?_
      rw [ksk_t1]
      have ho := PySem.W.copyHeap_at s.heap its
      generalize ha : s.heap.objs.size + 1 = a at ho ha0
      have hsz : ((PySem.W.copyHeap s.heap its).update a (Obj.mapSeq fun _ => #[])).objs.size = (PySem.W.copyHeap s.heap its).objs.size := Heap.size_update _ _ _
      have hlt : a < (PySem.W.copyHeap s.heap its).objs.size := Heap.lt_size ho
      obtain ⟨e1, ho1⟩ : ∃ e1, ((PySem.W.copyHeap s.heap its).update a (Obj.mapSeq fun _ => #[])).get? a = some (seqObj "list" #[] e1) := ⟨_, get?_update_seq ho (fun _ => #[])⟩
      have old : ∀ b o, s.heap.get? b = some o → (PySem.W.sortingHeap (PySem.W.copyHeap s.heap its) a its).get? b = some o := fun b o e =>
        PySem.W.sortingHeap_old (Nat.ne_of_lt (Nat.lt_of_lt_of_le (Heap.lt_size e) ha0)) (PySem.W.copyHeap_old e)
      unfold ksk_tree
      refine wpAny_bind (listItems_at ho rfl ?_)
      refine wpAny_bind (listUpdate_at ho rfl ?_ (by rw [List.size_toArray, ← rv.length]; exact hz) (Nat.zero_le _))
      refine wpAny_bind (seqEpoch_at ho1 rfl ?_)
      refine wpAny_bind (wpAny_newTuple ?_ (by show its.length ≤ _; rw [← rv.length]; exact hz))
      refine wpAny_bind (wpAny_newList ?_ (Nat.zero_le _))
      refine wpAny_holding ?_
      have hS : (((PySem.W.copyHeap s.heap its).update a (Obj.mapSeq fun _ => #[])).push (seqObj "tuple" its.toArray 0)).objs.size = (PySem.W.copyHeap s.heap its).objs.size + 1 := by rw [size_push', hsz]
      have hnS : (PySem.W.sortingHeap (PySem.W.copyHeap s.heap its) a its).get? ((((PySem.W.copyHeap s.heap its).update a (Obj.mapSeq fun _ => #[])).push (seqObj "tuple" its.toArray 0)).objs.size) = some (seqObj "list" #[] 0) := Heap.get?_push_size _ rfl
      have hna : (PySem.W.sortingHeap (PySem.W.copyHeap s.heap its) a its).get? a = some (seqObj "list" #[] e1) := Heap.get?_push_of_some _ (Heap.get?_push_of_some _ ho1)
      generalize hkS : (((PySem.W.copyHeap s.heap its).update a (Obj.mapSeq fun _ => #[])).push (seqObj "tuple" its.toArray 0)).objs.size = kS at hS hnS
      have hkle : s.heap.objs.size ≤ kS := by omega
      have hka : kS ≠ a := by omega
      have haH : H a = none := I.hok.fresh ha0
      have hkH : H kS = none := I.hok.fresh hkle
      have hak : s.heap.get? a = none := Heap.get?_none_of_le ha0
      have hkk : s.heap.get? kS = none := Heap.get?_none_of_le hkle
      have I1 : L2.Inv X pins σ (upd H kS (.lst [])) { s with heap := PySem.W.sortingHeap (PySem.W.copyHeap s.heap its) a its } :=
        I.laid (t' := s.toks) (o := .lst []) old hkle ⟨Nat.zero_le _, [], 0, .nil, hnS⟩
      have hloc : a ≠ X.env.locals := Nat.ne_of_gt (Nat.lt_of_lt_of_le I.lt ha0)
      have hfs : a ∉ X.fs := I.nofs ha0
      have I2 : L2.Inv X ((a, seqObj "list" #[] e1) :: pins) σ (upd H kS (.lst [])) { s with heap := PySem.W.sortingHeap (PySem.W.copyHeap s.heap its) a its } := I1.pins_of fun z hz => by
        rcases List.mem_cons.mp hz with rfl | hz
        · exact ⟨hna, by rw [upd_ne (Ne.symm hka)]; exact haH, hloc, hfs, fun v => by intro z; cases z⟩
        · exact I1.pin z (List.mem_append_right _ hz)
      show wpAny (model X.prog X.w) X.A.in1.in1 (ksk_rest a (.ref f) false its.toArray e1 (.ref kS)) _ E' { s with heap := PySem.W.sortingHeap (PySem.W.copyHeap s.heap its) a its }
      refine keyS_rest F hb hr2 (fun _ _ e => e.in1.in1) I2 gh hkH hka (gh.free hkH) rv da (by rw [hl]; exact hz) hall k1 k2 (fun d hd => ?_) fun G' H' s' ks I' st hk gk => ?_
      · have h1 := k3 d hd
        have h2 := hr.un
        show X.A.units + 2 + d.depth < cLine
        omega
      · have small : ∀ b, b < s.heap.objs.size → (b == kS || b == a) = false := fun b hb => by
          rw [Bool.or_eq_false_iff, beq_eq_false_iff_ne, beq_eq_false_iff_ne]; exact ⟨by omega, by omega⟩
        have haH' : H' a = none := (I'.pin (a, seqObj "list" #[] e1) (by simp)).2.1
        obtain ⟨h₁, g1, g2, hsub, J⟩ := inv_drop (pins' := pins) (bad := fun b => b == kS || b == a) I' (fun b z => by
            have hsz := I.sz
            rw [Bool.or_eq_true, beq_iff_eq, beq_iff_eq] at z
            rcases z with rfl | rfl <;> omega) (small _ I.lt) (fun x c e => small _ (by obtain ⟨v, o, ho, _⟩ := I.cell x c e; exact Heap.lt_size ho))
          (fun p hp => small _ (Heap.lt_size (I.pin p hp).1)) (fun p hp => List.mem_cons_of_mem _ hp) (fun b z => by
            rw [Bool.or_eq_true, beq_iff_eq, beq_iff_eq] at z
            rcases z with rfl | rfl
            · exact .inr ⟨_, hk⟩
            · exact .inl haH')
        have hkb : (fun b => b == kS || b == a) kS = true := by simp
        have hab : (fun b => b == kS || b == a) a = true := by simp
        refine ⟨h₁, fun b o hb e => hsub b o e, g2 kS hkb, fun h' tk out c kp hD ko => ⟨rfl, ?_⟩⟩
        have e := each_dp rfl I gh da rv
        have eo := PySem.W.keyedOut_each (keyD g) ko e
        obtain ⟨vs2, r1, d1⟩ := each_back eo
        have hl2 : vs2.length ≤ sizeLine := by
          have h1 := d1.length
          rw [List.length_mergeSort] at h1
          rw [h1, hl]; exact hz
        have hda : dropH (fun b => b == kS || b == a) H' a = none := dropH_bad hab
        have J2 : L2.Inv X pins σ (upd (dropH (fun b => b == kS || b == a) H') a (.lst vs2)) { s' with heap := h', toks := tk } :=
          J.laidN (t' := tk) (fun b o e => kp b o (fun z => by subst z; rw [g2 b hab] at e; cases e) e) (g2 a hab) hda ⟨hl2, out, c, r1, hD⟩
        have ga : G' a = none := st.gh.free haH'
        refine ⟨.ref a, _, J2, rfl, q _ _ G' _ ⟨fun b o e => ?_, st.gg, fun b o e => ?_, st.sep⟩ haH ga upd_same (dpAll_mono st.gg _ _ d1)⟩
        · rw [upd_ne (ne_of_none e haH), dropH_ne (by
            rw [Bool.or_eq_false_iff, beq_eq_false_iff_ne, beq_eq_false_iff_ne]
            exact ⟨ne_of_none e hkH, ne_of_none e haH⟩)]
          exact st.hh b o e
        · rw [upd_ne (ne_of_none e ga), dropH_ne (by
            rw [Bool.or_eq_false_iff, beq_eq_false_iff_ne, beq_eq_false_iff_ne]
            exact ⟨ne_of_none e gk, ne_of_none e ga⟩)]
          exact st.gh b o e
    · cases eg
  · cases eg
section
variable {X : Cx} {e : Expr} {pos p q kp : Pos} {O : Os} {L : Fl} {g : List PyData → Option PyData} {k j : Nat} {x : Str} {y : Str}
theorem o_sortK (D : Kn X.prog X.w X.K X.mg X.base x k [y] g) (hr : Room j X.A) (hj : k + 2 ≤ j) (hgx : Gl X x) (hg : Gl X "sorted") (hm : X.mg "sorted" = none) (hv : bootBuiltins "sorted" = some (.builtin "sorted")) (ha : PA X [e] (RAb X.K O L))
    (hd : (x == ("__debug__" : Str)) = false := by decide)
    (he : backTo pos (starEach [e] X.env) = (false, eval e X.env) :: backTo pos (starEach [] X.env) := by rfl) (hpl : (backTo pos (starEach [e] X.env)).any (·.1) = false := by rfl)
    (hall : (backToKw pos (keywordEach [⟨some "key", .Name x q, kp⟩] X.env)).all (·.1.isSome) = true := by rfl) (hnone : (backToKw pos (keywordEach [⟨some "key", .Name x q, kp⟩] X.env)).any (·.1.isNone) = false := by rfl) (hks : (backToKw pos (keywordEach [⟨some "key", .Name x q, kp⟩] X.env)).filterMap (·.1) = [Str.ofString "key"] := by rfl) :
    PE X (.Call (.Name "sorted" p) [e] [⟨some "key", .Name x q, kp⟩] pos) (RO X.K O (fL (dSortK g) L)) := by
  obtain ⟨f, fd, G, a, b, c⟩ := D
  refine pe_imp (pe_callBK (c_sortedK (j := k) G c (hr.mono hj)) hg hm hv ha (pk_cons (pe_glob (v := .ref f) hgx a rfl hd) pk_nil) (by decide) (by decide) he hpl hall hnone hks) fun σ H Q h => ?_
  obtain ⟨Γ, G0, ρ, ys, R, ef, q⟩ := h
  obtain ⟨ds, e1, e2⟩ := fL_some ef
  exact ⟨Γ, G0, ρ, ds, R, e1, fun vs G1 H1 s1 b => ⟨rfl, G1, ds, ys, s1.gh, b, e2, fun p xs G' H' s n g hp da => q p xs G' H' (s1.trans s) (s1.hh.free n) g hp da⟩⟩
end
end Dat
open PySem PySem.Spec PyProof.Rows L2
namespace Dat
def top (i : Nat) : Stmt := PySem.Challenge.pw_tickoff_k04_within.main.body.getD i (.Pass ⟨0, 0, 0, 0⟩)
section
variable {P : Program} {w : World} {K : PySem.W.Frag} {mg : Str → Option Value} {base : Heap}
abbrev s_is_shaped : Stmt := top 2
abbrev N_is_shaped : List Str := ["places", "count", "k"]
theorem sc_is_shaped : FnScope N_is_shaped ["places", "count"] (defScope s_is_shaped) := ⟨rfl, rfl, rfl, by decide +kernel, rfl, by decide +kernel, by decide +kernel⟩
def B_is_shaped : Bs := (seqS (ifS (notT (asB (chF dLe dLe (cF (.int 1)) (fL dLen (consA (vF 0) nilA)) (cF (.int 3))))) (retS (cF (.bool false))) nopS) (seqS (forS (fL dRange (exN 1 (consA (fL dLen (consA (vF 0) nilA)) nilA))) (tgN 2) (ifS (orT (notT (asB (chF dLe dLt (cF (.int 0)) (f2 dIx (vF 0) (vF 2)) (vF 1)))) (andT (asB (f2 dGt (vF 2) (cF (.int 0)))) (asB (f2 dLe (f2 dIx (vF 0) (vF 2)) (f2 dIx (vF 0) (f2 dSub (vF 2) (cF (.int 1)))))))) (retS (cF (.bool false))) nopS)) (retS (cF (.bool true)))))
def S_is_shaped : List PyData → Option PyData := runF 3 2 B_is_shaped
theorem kd_is_shaped {f : Addr} {fd : FuncData} (h : Here K mg "is_shaped" s_is_shaped ["places", "count"] f fd) (m_len : mg "len" = none) (m_range : mg "range" = none) (g_MOST : ∃ t, mg "MOST" = some (.int 3 t))  : Kn P w K mg base "is_shaped" 1 ["places", "count"] S_is_shaped :=
  kd_of h (fn_d h.fn sc_is_shaped rfl rfl (by decide) fun cdv A outer s H E hr => ⟨[], [], (s_cons (s_if (t_not (t_chain op_dLe op_dLe (d_b d_int) (d_b (d_callB c_len (by rfl) m_len (by decide +kernel) (ab_cons (b_var 0 (pv 0)) ab_nil))) (d_b (d_glob (by rfl) g_MOST)))) (s_one (s_ret d_bl)) s_nil) (s_cons (s_for PassesOwn.never rfl (i_range1 (by rfl) m_range (ab_cons (d_b (d_callB c_len (by rfl) m_len (by decide +kernel) (ab_cons (b_var 0 (pv 0)) ab_nil))) ab_nil)) (tg_n rfl) (pg_name (i := 2) sc_is_shaped.nd rfl (by first | exact Or.inl rfl | exact Or.inr rfl)) (s_one (s_if (t_w (w_or (t_not (t_chain op_dLe (op_dLt (hu200 hr)) (d_b d_int) (d_b (d_ix (b_var 0 (pv 0)) (b_var 2 (pv 2)) (fun _ _ => rfl))) (b_var 1 (pv 1)))) (w_or1 (t_w (w_and (t_cmp op_dGt (b_var 2 (pv 2)) (d_b d_int) (by rfl)) (w_and1 (t_cmp op_dLe (d_b (d_ix (b_var 0 (pv 0)) (b_var 2 (pv 2)) (fun _ _ => rfl))) (d_b (d_ix (b_var 0 (pv 0)) (d_b (d_op op_dSub (b_var 2 (pv 2)) (d_b d_int))) (fun _ _ => rfl))) (by rfl)))))))) (s_one (s_ret d_bl)) s_nil))) (s_one (s_ret d_bl))))⟩)
abbrev s_fits : Stmt := top 3
abbrev N_fits : List Str := ["banks", "books", "span", "match", "ones", "place", "others", "entry", "days"]
theorem sc_fits : FnScope N_fits ["banks", "books", "span", "match"] (defScope s_fits) := ⟨rfl, rfl, rfl, by decide +kernel, rfl, by decide +kernel, by decide +kernel⟩
def T_fits_6 : Bs := (retS (f2 dLe (f2 dSub (fL dMax (consA (vF 8) nilA)) (fL dMin (consA (vF 8) nilA))) (vF 2)))
def T_fits_5 : Bs := (seqS (setS 8 (lstF (lcF (seqA (f2 dAdd (vF 4) (vF 6))) [7] (tgN 7) yesT (f2 dIx (vF 7) (cF (.int 0)))))) T_fits_6)
def T_fits_4 : Bs := (seqS (ifS (asB (f2 dNe (fL dSum (consA (lstF (lcF (seqA (vF 4)) [7] (tgN 7) yesT (f2 dIx (vF 7) (cF (.int 1))))) nilA)) (fL dSum (consA (lstF (lcF (seqA (vF 6)) [7] (tgN 7) yesT (f2 dIx (vF 7) (cF (.int 1))))) nilA)))) (retS (cF (.bool false))) nopS) T_fits_5)
def T_fits_3 : Bs := (seqS (setS 6 (lstF (lcF (seqA (f2 dIx (vF 3) (cF (.int 1)))) [5] (tgN 5) yesT (f2 dIx (vF 1) (vF 5))))) T_fits_4)
def T_fits_2 : Bs := (seqS (setS 4 (lstF (lcF (seqA (f2 dIx (vF 3) (cF (.int 0)))) [5] (tgN 5) yesT (f2 dIx (vF 0) (vF 5))))) T_fits_3)
def T_fits_1 : Bs := (seqS (ifS (andT (asB (f2 dGt (fL dLen (consA (f2 dIx (vF 3) (cF (.int 0))) nilA)) (cF (.int 1)))) (asB (f2 dGt (fL dLen (consA (f2 dIx (vF 3) (cF (.int 1))) nilA)) (cF (.int 1))))) (retS (cF (.bool false))) nopS) T_fits_2)
def B_fits : Bs := (seqS (ifS (orT (notT (asB (fL S_is_shaped (consA (f2 dIx (vF 3) (cF (.int 0))) (consA (fL dLen (consA (vF 0) nilA)) nilA))))) (notT (asB (fL S_is_shaped (consA (f2 dIx (vF 3) (cF (.int 1))) (consA (fL dLen (consA (vF 1) nilA)) nilA)))))) (retS (cF (.bool false))) nopS) T_fits_1)
def S_fits : List PyData → Option PyData := runF 9 4 B_fits
theorem kd_fits {f : Addr} {fd : FuncData} (h : Here K mg "fits" s_fits ["banks", "books", "span", "match"] f fd) (m_len : mg "len" = none) (m_sum : mg "sum" = none) (m_max : mg "max" = none) (m_min : mg "min" = none) (c_is_shaped : Kn P w K mg base "is_shaped" 1 ["places", "count"] S_is_shaped) : Kn P w K mg base "fits" 2 ["banks", "books", "span", "match"] S_fits :=
  kd_of h (fn_d h.fn sc_fits rfl rfl (by decide) fun cdv A outer s H E hr => ⟨[], [], (s_cons (s_if (t_w (w_or (t_not (t_val (d_callK c_is_shaped hr (by decide) pass0 (by rfl) (a_cons (d_ix (b_var 3 (pv 3)) (d_b d_int) (fun _ _ => rfl)) (a_cons (d_callB c_len (by rfl) m_len (by decide +kernel) (ab_cons (b_var 0 (pv 0)) ab_nil)) a_nil))))) (w_or1 (t_not (t_val (d_callK c_is_shaped hr (by decide) pass0 (by rfl) (a_cons (d_ix (b_var 3 (pv 3)) (d_b d_int) (fun _ _ => rfl)) (a_cons (d_callB c_len (by rfl) m_len (by decide +kernel) (ab_cons (b_var 1 (pv 1)) ab_nil)) a_nil)))))))) (s_one (s_ret d_bl)) s_nil) (s_cons (s_if (t_w (w_and (t_cmp op_dGt (d_b (d_callB c_len (by rfl) m_len (by decide +kernel) (ab_cons (d_b (d_ix (b_var 3 (pv 3)) (d_b d_int) (fun _ _ => rfl))) ab_nil))) (d_b d_int) (by rfl)) (w_and1 (t_cmp op_dGt (d_b (d_callB c_len (by rfl) m_len (by decide +kernel) (ab_cons (d_b (d_ix (b_var 3 (pv 3)) (d_b d_int) (fun _ _ => rfl))) ab_nil))) (d_b d_int) (by rfl))))) (s_one (s_ret d_bl)) s_nil) (s_cons (s_setLc (i := 4) (own := [("place", 5)]) rfl sc_fits.nd rfl rfl rfl (sw_true rfl rfl rfl (by decide +kernel)) (i_seq (d_ix (b_var 3 (pv 3)) (d_b d_int) (fun _ _ => rfl))) (blkOk_by (own := [("place", 5)]) (N := N_fits) (sc := defScope s_fits) (by decide +kernel)) (tg_n rfl) (by decide) rfl (fun _ _ _ _ _ => (pg_name (i := 5) sc_fits.nd rfl (by first | exact Or.inl rfl | exact Or.inr rfl))) (fun _ _ _ _ _ => ts_nil) (fun _ _ _ _ _ => (d_ix (b_var 0 (pv 0)) (b_var 5 (pv 5)) (fun _ _ => rfl)))) (s_cons (s_setLc (i := 6) (own := [("place", 5)]) rfl sc_fits.nd rfl rfl rfl (sw_true rfl rfl rfl (by decide +kernel)) (i_seq (d_ix (b_var 3 (pv 3)) (d_b d_int) (fun _ _ => rfl))) (blkOk_by (own := [("place", 5)]) (N := N_fits) (sc := defScope s_fits) (by decide +kernel)) (tg_n rfl) (by decide) rfl (fun _ _ _ _ _ => (pg_name (i := 5) sc_fits.nd rfl (by first | exact Or.inl rfl | exact Or.inr rfl))) (fun _ _ _ _ _ => ts_nil) (fun _ _ _ _ _ => (d_ix (b_var 1 (pv 1)) (b_var 5 (pv 5)) (fun _ _ => rfl)))) (s_cons (s_if (t_cmp (op_dNe (hu200 hr)) (d_b (d_callB (c_sum rfl) (by rfl) m_sum (by decide +kernel) (ab_cons (d_b (o_d (o_lc (own := [("entry", 7)]) rfl sc_fits.nd (i_seq (d_var 4 (pv 4))) (blkOk_by (own := [("entry", 7)]) (N := N_fits) (sc := defScope s_fits) (by decide +kernel)) (tg_n rfl) (by decide) rfl (fun _ _ _ _ _ => (pg_name (i := 7) sc_fits.nd rfl (by first | exact Or.inl rfl | exact Or.inr rfl))) (fun _ _ _ _ _ => ts_nil) (fun _ _ _ _ _ => (d_ix (b_var 7 (pv 7)) (d_b d_int) (fun _ _ => rfl)))))) ab_nil))) (d_b (d_callB (c_sum rfl) (by rfl) m_sum (by decide +kernel) (ab_cons (d_b (o_d (o_lc (own := [("entry", 7)]) rfl sc_fits.nd (i_seq (d_var 6 (pv 6))) (blkOk_by (own := [("entry", 7)]) (N := N_fits) (sc := defScope s_fits) (by decide +kernel)) (tg_n rfl) (by decide) rfl (fun _ _ _ _ _ => (pg_name (i := 7) sc_fits.nd rfl (by first | exact Or.inl rfl | exact Or.inr rfl))) (fun _ _ _ _ _ => ts_nil) (fun _ _ _ _ _ => (d_ix (b_var 7 (pv 7)) (d_b d_int) (fun _ _ => rfl)))))) ab_nil))) (by rfl)) (s_one (s_ret d_bl)) s_nil) (s_cons (s_setLc (i := 8) (own := [("entry", 7)]) rfl sc_fits.nd rfl rfl rfl (sw_true rfl rfl rfl (by decide +kernel)) (i_seq (d_op op_dAdd (b_var 4 (pv 4)) (b_var 6 (pv 6)))) (blkOk_by (own := [("entry", 7)]) (N := N_fits) (sc := defScope s_fits) (by decide +kernel)) (tg_n rfl) (by decide) rfl (fun _ _ _ _ _ => (pg_name (i := 7) sc_fits.nd rfl (by first | exact Or.inl rfl | exact Or.inr rfl))) (fun _ _ _ _ _ => ts_nil) (fun _ _ _ _ _ => (d_ix (b_var 7 (pv 7)) (d_b d_int) (fun _ _ => rfl)))) (s_one (s_ret (d_cmp op_dLe (d_b (d_op op_dSub (d_b (d_callB (c_max rfl) (by rfl) m_max (by decide +kernel) (ab_cons (b_var 8 (pv 8)) ab_nil))) (d_b (d_callB (c_min rfl) (by rfl) m_min (by decide +kernel) (ab_cons (b_var 8 (pv 8)) ab_nil))))) (b_var 2 (pv 2)) (by rfl))))))))))⟩)
abbrev s_rows_of : Stmt := top 4
abbrev N_rows_of : List Str := ["places", "found", "i", "j", "k"]
theorem sc_rows_of : FnScope N_rows_of ["places"] (defScope s_rows_of) := ⟨rfl, rfl, rfl, by decide +kernel, rfl, by decide +kernel, by decide +kernel⟩
def B_rows_of : Bs := (seqS (setO 1 (few nilA)) (seqS (forS (fL dRange (exN 1 (consA (fL dLen (consA (vF 0) nilA)) nilA))) (tgN 2) (seqS (appS 1 (tupF (consA (f2 dIx (vF 0) (vF 2)) nilA))) (forS (fL dRange (exN 2 (consA (f2 dAdd (vF 2) (cF (.int 1))) (consA (fL dLen (consA (vF 0) nilA)) nilA)))) (tgN 3) (seqS (appS 1 (tupF (consA (f2 dIx (vF 0) (vF 2)) (consA (f2 dIx (vF 0) (vF 3)) nilA)))) (forS (fL dRange (exN 2 (consA (f2 dAdd (vF 3) (cF (.int 1))) (consA (fL dLen (consA (vF 0) nilA)) nilA)))) (tgN 4) (appS 1 (tupF (consA (f2 dIx (vF 0) (vF 2)) (consA (f2 dIx (vF 0) (vF 3)) (consA (f2 dIx (vF 0) (vF 4)) nilA)))))))))) (retS (vF 1))))
def S_rows_of : List PyData → Option PyData := runF 5 1 B_rows_of
theorem kd_rows_of {f : Addr} {fd : FuncData} (h : Here K mg "rows_of" s_rows_of ["places"] f fd) (m_range : mg "range" = none) (m_len : mg "len" = none)  : Kn P w K mg base "rows_of" 1 ["places"] S_rows_of :=
  kd_of h (fn_d h.fn sc_rows_of rfl rfl (by decide) fun cdv A outer s H E hr => ⟨[(1, .lst)], [], (s_cons (s_setO (i := 1) sc_rows_of.nd rfl (by first | exact Or.inl rfl | exact Or.inr rfl) rfl (O' := [(1, .lst)]) rfl (o_lst a_nil)) (s_cons (s_for PassesOwn.never rfl (i_range1 (by rfl) m_range (ab_cons (d_b (d_callB c_len (by rfl) m_len (by decide +kernel) (ab_cons (b_var 0 (pv 0)) ab_nil))) ab_nil)) (tg_n rfl) (pg_name (i := 2) sc_rows_of.nd rfl (by first | exact Or.inl rfl | exact Or.inr rfl)) (s_cons (s_app 1 (by simp) (pe_bm PySem.F.plainAttrs_list PySem.F.slot_list_append PySem.F.type_list_append mt_append (pv 1) (pa_cons (d_tup (a_cons (d_ix (b_var 0 (pv 0)) (b_var 2 (pv 2)) (fun _ _ => rfl)) a_nil)) pa_nil))) (s_one (s_for PassesOwn.never rfl (i_range2 (by rfl) m_range (ab_cons (d_b (d_op op_dAdd (b_var 2 (pv 2)) (d_b d_int))) (ab_cons (d_b (d_callB c_len (by rfl) m_len (by decide +kernel) (ab_cons (b_var 0 (pv 0)) ab_nil))) ab_nil))) (tg_n rfl) (pg_name (i := 3) sc_rows_of.nd rfl (by first | exact Or.inl rfl | exact Or.inr rfl)) (s_cons (s_app 1 (by simp) (pe_bm PySem.F.plainAttrs_list PySem.F.slot_list_append PySem.F.type_list_append mt_append (pv 1) (pa_cons (d_tup (a_cons (d_ix (b_var 0 (pv 0)) (b_var 2 (pv 2)) (fun _ _ => rfl)) (a_cons (d_ix (b_var 0 (pv 0)) (b_var 3 (pv 3)) (fun _ _ => rfl)) a_nil))) pa_nil))) (s_one (s_for PassesOwn.never rfl (i_range2 (by rfl) m_range (ab_cons (d_b (d_op op_dAdd (b_var 3 (pv 3)) (d_b d_int))) (ab_cons (d_b (d_callB c_len (by rfl) m_len (by decide +kernel) (ab_cons (b_var 0 (pv 0)) ab_nil))) ab_nil))) (tg_n rfl) (pg_name (i := 4) sc_rows_of.nd rfl (by first | exact Or.inl rfl | exact Or.inr rfl)) (s_one (s_app 1 (by simp) (pe_bm PySem.F.plainAttrs_list PySem.F.slot_list_append PySem.F.type_list_append mt_append (pv 1) (pa_cons (d_tup (a_cons (d_ix (b_var 0 (pv 0)) (b_var 2 (pv 2)) (fun _ _ => rfl)) (a_cons (d_ix (b_var 0 (pv 0)) (b_var 3 (pv 3)) (fun _ _ => rfl)) (a_cons (d_ix (b_var 0 (pv 0)) (b_var 4 (pv 4)) (fun _ _ => rfl)) a_nil)))) pa_nil))))))))))) (s_one (s_retV 1 (pv 1)))))⟩)
abbrev s_rank : Stmt := top 5
abbrev N_rank : List Str := ["match"]
theorem sc_rank : FnScope N_rank ["match"] (defScope s_rank) := ⟨rfl, rfl, rfl, by decide +kernel, rfl, by decide +kernel, by decide +kernel⟩
def B_rank : Bs := (retS (tupF (consA (f2 dAdd (fL dLen (consA (f2 dIx (vF 0) (cF (.int 0))) nilA)) (fL dLen (consA (f2 dIx (vF 0) (cF (.int 1))) nilA))) (consA (vF 0) nilA))))
def S_rank : List PyData → Option PyData := runF 1 1 B_rank
theorem kd_rank {f : Addr} {fd : FuncData} (h : Here K mg "rank" s_rank ["match"] f fd) (m_len : mg "len" = none)  : Kn P w K mg base "rank" 1 ["match"] S_rank :=
  kd_of h (fn_d h.fn sc_rank rfl rfl (by decide) fun cdv A outer s H E hr => ⟨[], [], (s_one (s_ret (d_tup (a_cons (d_op op_dAdd (d_b (d_callB c_len (by rfl) m_len (by decide +kernel) (ab_cons (d_b (d_ix (b_var 0 (pv 0)) (d_b d_int) (fun _ _ => rfl))) ab_nil))) (d_b (d_callB c_len (by rfl) m_len (by decide +kernel) (ab_cons (d_b (d_ix (b_var 0 (pv 0)) (d_b d_int) (fun _ _ => rfl))) ab_nil)))) (a_cons (d_var 0 (pv 0)) a_nil)))))⟩)
abbrev s_within : Stmt := top 6
abbrev N_within : List Str := ["banks", "books", "span", "group", "ones", "mark", "others", "found", "one", "other"]
theorem sc_within : FnScope N_within ["banks", "books", "span", "group"] (defScope s_within) := ⟨rfl, rfl, rfl, by decide +kernel, rfl, by decide +kernel, by decide +kernel⟩
def B_within : Bs := (seqS (setS 4 (fL S_rows_of (consA (lstF (fL dSorted (consA (lstF (lcF (seqA (vF 3)) [5] (tgN 5) (asB (f2 dEq (f2 dIx (vF 5) (cF (.int 0))) (cF (.str "bank")))) (f2 dIx (vF 5) (cF (.int 1))))) nilA))) nilA))) (seqS (setS 6 (fL S_rows_of (consA (lstF (fL dSorted (consA (lstF (lcF (seqA (vF 3)) [5] (tgN 5) (asB (f2 dEq (f2 dIx (vF 5) (cF (.int 0))) (cF (.str "book")))) (f2 dIx (vF 5) (cF (.int 1))))) nilA))) nilA))) (seqS (setO 7 (few nilA)) (seqS (forS (seqA (vF 4)) (tgN 8) (forS (seqA (vF 6)) (tgN 9) (ifS (andT (asB (f2 dEq (fL dMin (consA (fL dLen (consA (vF 8) nilA)) (consA (fL dLen (consA (vF 9) nilA)) nilA))) (cF (.int 1)))) (asB (fL S_fits (consA (vF 0) (consA (vF 1) (consA (vF 2) (consA (tupF (consA (vF 8) (consA (vF 9) nilA))) nilA))))))) (appS 7 (tupF (consA (vF 8) (consA (vF 9) nilA)))) nopS))) (retS (lstF (fL (dSortK S_rank) (consA (vF 7) nilA))))))))
def S_within : List PyData → Option PyData := runF 10 4 B_within
theorem kd_within {f : Addr} {fd : FuncData} (h : Here K mg "within" s_within ["banks", "books", "span", "group"] f fd) (m_sorted : mg "sorted" = none) (m_min : mg "min" = none) (m_len : mg "len" = none) (c_rows_of : Kn P w K mg base "rows_of" 1 ["places"] S_rows_of) (c_fits : Kn P w K mg base "fits" 2 ["banks", "books", "span", "match"] S_fits) (c_rank : Kn P w K mg base "rank" 1 ["match"] S_rank) : Kn P w K mg base "within" 4 ["banks", "books", "span", "group"] S_within :=
  kd_of h (fn_d h.fn sc_within rfl rfl (by decide) fun cdv A outer s H E hr => ⟨[(7, .lst)], [], (s_cons (s_set (i := 4) sc_within.nd rfl (by first | exact Or.inl rfl | exact Or.inr rfl) rfl (d_callK c_rows_of hr (by decide) pass0 (by rfl) (a_cons (o_d (o_callB (c_sorted (hu200 hr)) (by rfl) m_sorted (by decide +kernel) (ab_cons (d_b (o_d (o_lc (own := [("mark", 5)]) rfl sc_within.nd (i_seq (d_var 3 (pv 3))) (blkOk_by (own := [("mark", 5)]) (N := N_within) (sc := defScope s_within) (by decide +kernel)) (tg_n rfl) (by decide) rfl (fun _ _ _ _ _ => (pg_name (i := 5) sc_within.nd rfl (by first | exact Or.inl rfl | exact Or.inr rfl))) (fun _ _ _ _ _ => (ts_one (t_cmp (op_dEq (hu200 hr)) (d_b (d_ix (b_var 5 (pv 5)) (d_b d_int) (fun _ _ => rfl))) (d_b d_str) (by rfl)))) (fun _ _ _ _ _ => (d_ix (b_var 5 (pv 5)) (d_b d_int) (fun _ _ => rfl)))))) ab_nil))) a_nil))) (s_cons (s_set (i := 6) sc_within.nd rfl (by first | exact Or.inl rfl | exact Or.inr rfl) rfl (d_callK c_rows_of hr (by decide) pass0 (by rfl) (a_cons (o_d (o_callB (c_sorted (hu200 hr)) (by rfl) m_sorted (by decide +kernel) (ab_cons (d_b (o_d (o_lc (own := [("mark", 5)]) rfl sc_within.nd (i_seq (d_var 3 (pv 3))) (blkOk_by (own := [("mark", 5)]) (N := N_within) (sc := defScope s_within) (by decide +kernel)) (tg_n rfl) (by decide) rfl (fun _ _ _ _ _ => (pg_name (i := 5) sc_within.nd rfl (by first | exact Or.inl rfl | exact Or.inr rfl))) (fun _ _ _ _ _ => (ts_one (t_cmp (op_dEq (hu200 hr)) (d_b (d_ix (b_var 5 (pv 5)) (d_b d_int) (fun _ _ => rfl))) (d_b d_str) (by rfl)))) (fun _ _ _ _ _ => (d_ix (b_var 5 (pv 5)) (d_b d_int) (fun _ _ => rfl)))))) ab_nil))) a_nil))) (s_cons (s_setO (i := 7) sc_within.nd rfl (by first | exact Or.inl rfl | exact Or.inr rfl) rfl (O' := [(7, .lst)]) rfl (o_lst a_nil)) (s_cons (s_for PassesOwn.never rfl (i_seq (d_var 4 (pv 4))) (tg_n rfl) (pg_name (i := 8) sc_within.nd rfl (by first | exact Or.inl rfl | exact Or.inr rfl)) (s_one (s_for PassesOwn.never rfl (i_seq (d_var 6 (pv 6))) (tg_n rfl) (pg_name (i := 9) sc_within.nd rfl (by first | exact Or.inl rfl | exact Or.inr rfl)) (s_one (s_if (t_w (w_and (t_cmp (op_dEq (hu200 hr)) (d_b (d_callB (c_min rfl) (by rfl) m_min (by decide +kernel) (ab_cons (d_b (d_callB c_len (by rfl) m_len (by decide +kernel) (ab_cons (b_var 8 (pv 8)) ab_nil))) (ab_cons (d_b (d_callB c_len (by rfl) m_len (by decide +kernel) (ab_cons (b_var 9 (pv 9)) ab_nil))) ab_nil)))) (d_b d_int) (by rfl)) (w_and1 (t_val (d_callK c_fits hr (by decide) pass0 (by rfl) (a_cons (d_var 0 (pv 0)) (a_cons (d_var 1 (pv 1)) (a_cons (d_var 2 (pv 2)) (a_cons (d_tup (a_cons (d_var 8 (pv 8)) (a_cons (d_var 9 (pv 9)) a_nil))) a_nil))))))))) (s_one (s_app 7 (by simp) (pe_bm PySem.F.plainAttrs_list PySem.F.slot_list_append PySem.F.type_list_append mt_append (pv 7) (pa_cons (d_tup (a_cons (d_var 8 (pv 8)) (a_cons (d_var 9 (pv 9)) a_nil))) pa_nil)))) s_nil))))) (s_one (s_ret (o_d (o_sortK c_rank hr (by decide) (by rfl) (by rfl) m_sorted (by decide +kernel) (ab_cons (b_var 7 (pv 7)) ab_nil)))))))))⟩)
abbrev s__law_cell_at : Stmt := top 8
abbrev N__law_cell_at : List Str := ["_law_script", "_law_k"]
theorem sc__law_cell_at : FnScope N__law_cell_at ["_law_script", "_law_k"] (defScope s__law_cell_at) := ⟨rfl, rfl, rfl, by decide +kernel, rfl, by decide +kernel, by decide +kernel⟩
def B__law_cell_at : Bs := (seqS (ifS (asB (f2 dLt (vF 1) (fL dLen (consA (vF 0) nilA)))) (retS (f2 dIx (vF 0) (vF 1))) nopS) (retS (cF (.int 0))))
def S__law_cell_at : List PyData → Option PyData := runF 2 2 B__law_cell_at
theorem kd__law_cell_at {f : Addr} {fd : FuncData} (h : Here K mg "_law_cell_at" s__law_cell_at ["_law_script", "_law_k"] f fd) (m_len : mg "len" = none)  : Kn P w K mg base "_law_cell_at" 1 ["_law_script", "_law_k"] S__law_cell_at :=
  kd_of h (fn_d h.fn sc__law_cell_at rfl rfl (by decide) fun cdv A outer s H E hr => ⟨[], [], (s_cons (s_if (t_cmp (op_dLt (hu200 hr)) (b_var 1 (pv 1)) (d_b (d_callB c_len (by rfl) m_len (by decide +kernel) (ab_cons (b_var 0 (pv 0)) ab_nil))) (by rfl)) (s_one (s_ret (d_ix (b_var 0 (pv 0)) (b_var 1 (pv 1)) (fun _ _ => rfl)))) s_nil) (s_one (s_ret d_int)))⟩)
abbrev s__law_entry : Stmt := top 9
abbrev N__law_entry : List Str := ["_law_cell", "_law_days", "_law_scale"]
theorem sc__law_entry : FnScope N__law_entry ["_law_cell", "_law_days", "_law_scale"] (defScope s__law_entry) := ⟨rfl, rfl, rfl, by decide +kernel, rfl, by decide +kernel, by decide +kernel⟩
def B__law_entry : Bs := (retS (tupF (consA (f2 dMod (vF 0) (vF 1)) (consA (f2 dMul (f2 dIx (lstF (few (consA (cF (.int 1)) (consA (cF (.int 2)) (consA (cF (.int 3)) (consA (cF (.int 4)) (consA (f1 dNeg (cF (.int 1))) (consA (f1 dNeg (cF (.int 2))) nilA)))))))) (f2 dMod (f2 dDiv (vF 0) (cF (.int 12))) (cF (.int 6)))) (vF 2)) nilA))))
def S__law_entry : List PyData → Option PyData := runF 3 3 B__law_entry
theorem kd__law_entry {f : Addr} {fd : FuncData} (h : Here K mg "_law_entry" s__law_entry ["_law_cell", "_law_days", "_law_scale"] f fd)   : Kn P w K mg base "_law_entry" 1 ["_law_cell", "_law_days", "_law_scale"] S__law_entry :=
  kd_of h (fn_d h.fn sc__law_entry rfl rfl (by decide) fun cdv A outer s H E hr => ⟨[], [], (s_one (s_ret (d_tup (a_cons (d_op op_dMod (b_var 0 (pv 0)) (b_var 1 (pv 1))) (a_cons (d_op op_dMul (d_b (d_ix (d_b (o_d (o_lst (a_cons d_int (a_cons d_int (a_cons d_int (a_cons d_int (a_cons (d_neg (d_b d_int)) (a_cons (d_neg (d_b d_int)) a_nil))))))))) (d_b (d_op op_dMod (d_b (d_op op_dDiv (b_var 0 (pv 0)) (d_b d_int))) (d_b d_int))) (fun _ _ => rfl))) (b_var 2 (pv 2))) a_nil)))))⟩)
abbrev s__law_groups : Stmt := top 10
abbrev N__law_groups : List Str := ["_law_banks", "_law_books", "_law_span", "_law_rows", "_law_place", "_law_entry_here", "_law_found", "_law_k"]
theorem sc__law_groups : FnScope N__law_groups ["_law_banks", "_law_books", "_law_span"] (defScope s__law_groups) := ⟨rfl, rfl, rfl, by decide +kernel, rfl, by decide +kernel, by decide +kernel⟩
def B__law_groups : Bs := (seqS (setS 3 (lstF (lcF (enF (vF 0)) [4, 5] (tgP 4 5) yesT (tupF (consA (f2 dIx (vF 5) (cF (.int 0))) (consA (cF (.str "bank")) (consA (vF 4) nilA))))))) (seqS (setS 3 (lstF (fL dSorted (consA (f2 dAdd (vF 3) (lstF (lcF (enF (vF 1)) [4, 5] (tgP 4 5) yesT (tupF (consA (f2 dIx (vF 5) (cF (.int 0))) (consA (cF (.str "book")) (consA (vF 4) nilA))))))) nilA)))) (seqS (setO 6 (few nilA)) (seqS (forS (fL dRange (exN 1 (consA (fL dLen (consA (vF 3) nilA)) nilA))) (tgN 7) (seqS (ifS (orT (asB (f2 dEq (vF 7) (cF (.int 0)))) (asB (f2 dGt (f2 dSub (f2 dIx (f2 dIx (vF 3) (vF 7)) (cF (.int 0))) (f2 dIx (f2 dIx (vF 3) (f2 dSub (vF 7) (cF (.int 1)))) (cF (.int 0)))) (vF 2)))) (lolNewS 6) nopS) (lolAppS 6 (tupF (consA (f2 dIx (f2 dIx (vF 3) (vF 7)) (cF (.int 1))) (consA (f2 dIx (f2 dIx (vF 3) (vF 7)) (cF (.int 2))) nilA)))))) (retS (vF 6))))))
def S__law_groups : List PyData → Option PyData := runF 8 3 B__law_groups
theorem kd__law_groups {f : Addr} {fd : FuncData} (h : Here K mg "_law_groups" s__law_groups ["_law_banks", "_law_books", "_law_span"] f fd) (m_enumerate : mg "enumerate" = none) (m_sorted : mg "sorted" = none) (m_range : mg "range" = none) (m_len : mg "len" = none)  : Kn P w K mg base "_law_groups" 1 ["_law_banks", "_law_books", "_law_span"] S__law_groups :=
  kd_of h (fn_d h.fn sc__law_groups rfl rfl (by decide) fun cdv A outer s H E hr => ⟨[(6, .lol)], [], (s_cons (s_setLc (i := 3) (own := [("_law_place", 4), ("_law_entry_here", 5)]) rfl sc__law_groups.nd rfl rfl rfl (sw_true rfl rfl rfl (by decide +kernel)) (i_enum (by rfl) m_enumerate (d_var 0 (pv 0))) (blkOk_by (own := [("_law_place", 4), ("_law_entry_here", 5)]) (N := N__law_groups) (sc := defScope s__law_groups) (by decide +kernel)) (tg_p rfl rfl) (by decide) rfl (fun _ _ _ _ _ => (pg_tup rfl (pgs_cons (pg_name (i := 4) sc__law_groups.nd rfl (by first | exact Or.inl rfl | exact Or.inr rfl)) (pgs_cons (pg_name (i := 5) sc__law_groups.nd rfl (by first | exact Or.inl rfl | exact Or.inr rfl)) pgs_nil)))) (fun _ _ _ _ _ => ts_nil) (fun _ _ _ _ _ => (d_tup (a_cons (d_ix (b_var 5 (pv 5)) (d_b d_int) (fun _ _ => rfl)) (a_cons d_str (a_cons (d_var 4 (pv 4)) a_nil)))))) (s_cons (s_set (i := 3) sc__law_groups.nd rfl (by first | exact Or.inl rfl | exact Or.inr rfl) rfl (o_d (o_callB (c_sorted (hu200 hr)) (by rfl) m_sorted (by decide +kernel) (ab_cons (d_b (d_op op_dAdd (b_var 3 (pv 3)) (d_b (o_d (o_lc (own := [("_law_place", 4), ("_law_entry_here", 5)]) rfl sc__law_groups.nd (i_enum (by rfl) m_enumerate (d_var 1 (pv 1))) (blkOk_by (own := [("_law_place", 4), ("_law_entry_here", 5)]) (N := N__law_groups) (sc := defScope s__law_groups) (by decide +kernel)) (tg_p rfl rfl) (by decide) rfl (fun _ _ _ _ _ => (pg_tup rfl (pgs_cons (pg_name (i := 4) sc__law_groups.nd rfl (by first | exact Or.inl rfl | exact Or.inr rfl)) (pgs_cons (pg_name (i := 5) sc__law_groups.nd rfl (by first | exact Or.inl rfl | exact Or.inr rfl)) pgs_nil)))) (fun _ _ _ _ _ => ts_nil) (fun _ _ _ _ _ => (d_tup (a_cons (d_ix (b_var 5 (pv 5)) (d_b d_int) (fun _ _ => rfl)) (a_cons d_str (a_cons (d_var 4 (pv 4)) a_nil)))))))))) ab_nil)))) (s_cons (s_lol0 (i := 6) sc__law_groups.nd rfl (by first | exact Or.inl rfl | exact Or.inr rfl) rfl (O' := [(6, .lol)]) rfl) (s_cons (s_for PassesOwn.never rfl (i_range1 (by rfl) m_range (ab_cons (d_b (d_callB c_len (by rfl) m_len (by decide +kernel) (ab_cons (b_var 3 (pv 3)) ab_nil))) ab_nil)) (tg_n rfl) (pg_name (i := 7) sc__law_groups.nd rfl (by first | exact Or.inl rfl | exact Or.inr rfl)) (s_cons (s_if (t_w (w_or (t_cmp (op_dEq (hu200 hr)) (b_var 7 (pv 7)) (d_b d_int) (by rfl)) (w_or1 (t_cmp op_dGt (d_b (d_op op_dSub (d_b (d_ix (d_b (d_ix (b_var 3 (pv 3)) (b_var 7 (pv 7)) (fun _ _ => rfl))) (d_b d_int) (fun _ _ => rfl))) (d_b (d_ix (d_b (d_ix (b_var 3 (pv 3)) (d_b (d_op op_dSub (b_var 7 (pv 7)) (d_b d_int))) (fun _ _ => rfl))) (d_b d_int) (fun _ _ => rfl))))) (b_var 2 (pv 2)) (by rfl))))) (s_one (s_lolCat (i := 6) sc__law_groups.nd rfl (by first | exact Or.inl rfl | exact Or.inr rfl) (by simp) (pv 6))) s_nil) (s_one (s_lolApp 6 (by simp) (pe_bm PySem.F.plainAttrs_list PySem.F.slot_list_append PySem.F.type_list_append mt_append (pe_ix ix_list (pv 6) (pe_un un_neg pe_int) (fun _ _ => rfl)) (pa_cons (d_tup (a_cons (d_ix (d_b (d_ix (b_var 3 (pv 3)) (b_var 7 (pv 7)) (fun _ _ => rfl))) (d_b d_int) (fun _ _ => rfl)) (a_cons (d_ix (d_b (d_ix (b_var 3 (pv 3)) (b_var 7 (pv 7)) (fun _ _ => rfl))) (d_b d_int) (fun _ _ => rfl)) a_nil))) pa_nil)))))) (s_one (s_retV 6 (pv 6)))))))⟩)
abbrev s__law_chosen : Stmt := top 11
abbrev N__law_chosen : List Str := ["_law_places", "_law_number", "_law_found", "_law_place"]
theorem sc__law_chosen : FnScope N__law_chosen ["_law_places", "_law_number"] (defScope s__law_chosen) := ⟨rfl, rfl, rfl, by decide +kernel, rfl, by decide +kernel, by decide +kernel⟩
def B__law_chosen : Bs := (seqS (setO 2 (few nilA)) (seqS (forS (seqA (vF 0)) (tgN 3) (seqS (ifS (asB (f2 dEq (f2 dMod (vF 1) (cF (.int 2))) (cF (.int 1)))) (appS 2 (vF 3)) nopS) (setS 1 (f2 dDiv (vF 1) (cF (.int 2)))))) (retS (fL dTuple (consA (vF 2) nilA)))))
def S__law_chosen : List PyData → Option PyData := runF 4 2 B__law_chosen
theorem kd__law_chosen {f : Addr} {fd : FuncData} (h : Here K mg "_law_chosen" s__law_chosen ["_law_places", "_law_number"] f fd) (m_tuple : mg "tuple" = none)  : Kn P w K mg base "_law_chosen" 1 ["_law_places", "_law_number"] S__law_chosen :=
  kd_of h (fn_d h.fn sc__law_chosen rfl rfl (by decide) fun cdv A outer s H E hr => ⟨[(2, .lst)], [], (s_cons (s_setO (i := 2) sc__law_chosen.nd rfl (by first | exact Or.inl rfl | exact Or.inr rfl) rfl (O' := [(2, .lst)]) rfl (o_lst a_nil)) (s_cons (s_for PassesOwn.never rfl (i_seq (d_var 0 (pv 0))) (tg_n rfl) (pg_name (i := 3) sc__law_chosen.nd rfl (by first | exact Or.inl rfl | exact Or.inr rfl)) (s_cons (s_if (t_cmp (op_dEq (hu200 hr)) (d_b (d_op op_dMod (b_var 1 (pv 1)) (d_b d_int))) (d_b d_int) (by rfl)) (s_one (s_app 2 (by simp) (pe_bm PySem.F.plainAttrs_list PySem.F.slot_list_append PySem.F.type_list_append mt_append (pv 2) (pa_cons (d_var 3 (pv 3)) pa_nil)))) s_nil) (s_one (s_set (i := 1) sc__law_chosen.nd rfl (by first | exact Or.inl rfl | exact Or.inr rfl) rfl (d_op op_dDiv (b_var 1 (pv 1)) (d_b d_int)))))) (s_one (s_ret (d_callT c_tuple (by rfl) m_tuple (by decide +kernel) (ab_cons (b_var 2 (pv 2)) ab_nil))))))⟩)
abbrev s__law_rows_of : Stmt := top 12
abbrev N__law_rows_of : List Str := ["_law_places", "_law_found", "_law_many", "_law_place", "_law_number", "_law_row"]
theorem sc__law_rows_of : FnScope N__law_rows_of ["_law_places"] (defScope s__law_rows_of) := ⟨rfl, rfl, rfl, by decide +kernel, rfl, by decide +kernel, by decide +kernel⟩
def B__law_rows_of : Bs := (seqS (setO 1 (few nilA)) (seqS (setS 2 (cF (.int 1))) (seqS (forS (seqA (vF 0)) (tgN 3) (setS 2 (f2 dMul (vF 2) (cF (.int 2))))) (seqS (forS (fL dRange (exN 2 (consA (cF (.int 1)) (consA (vF 2) nilA)))) (tgN 4) (seqS (setS 5 (fL S__law_chosen (consA (vF 0) (consA (vF 4) nilA)))) (ifS (asB (f2 dLt (fL dLen (consA (vF 5) nilA)) (cF (.int 4)))) (appS 1 (vF 5)) nopS))) (retS (vF 1))))))
def S__law_rows_of : List PyData → Option PyData := runF 6 1 B__law_rows_of
theorem kd__law_rows_of {f : Addr} {fd : FuncData} (h : Here K mg "_law_rows_of" s__law_rows_of ["_law_places"] f fd) (m_range : mg "range" = none) (m_len : mg "len" = none) (c__law_chosen : Kn P w K mg base "_law_chosen" 1 ["_law_places", "_law_number"] S__law_chosen) : Kn P w K mg base "_law_rows_of" 2 ["_law_places"] S__law_rows_of :=
  kd_of h (fn_d h.fn sc__law_rows_of rfl rfl (by decide) fun cdv A outer s H E hr => ⟨[(1, .lst)], [], (s_cons (s_setO (i := 1) sc__law_rows_of.nd rfl (by first | exact Or.inl rfl | exact Or.inr rfl) rfl (O' := [(1, .lst)]) rfl (o_lst a_nil)) (s_cons (s_set (i := 2) sc__law_rows_of.nd rfl (by first | exact Or.inl rfl | exact Or.inr rfl) rfl d_int) (s_cons (s_for PassesOwn.never rfl (i_seq (d_var 0 (pv 0))) (tg_n rfl) (pg_name (i := 3) sc__law_rows_of.nd rfl (by first | exact Or.inl rfl | exact Or.inr rfl)) (s_one (s_set (i := 2) sc__law_rows_of.nd rfl (by first | exact Or.inl rfl | exact Or.inr rfl) rfl (d_op op_dMul (b_var 2 (pv 2)) (d_b d_int))))) (s_cons (s_for PassesOwn.never rfl (i_range2 (by rfl) m_range (ab_cons (d_b d_int) (ab_cons (b_var 2 (pv 2)) ab_nil))) (tg_n rfl) (pg_name (i := 4) sc__law_rows_of.nd rfl (by first | exact Or.inl rfl | exact Or.inr rfl)) (s_cons (s_set (i := 5) sc__law_rows_of.nd rfl (by first | exact Or.inl rfl | exact Or.inr rfl) rfl (d_callK c__law_chosen hr (by decide) pass0 (by rfl) (a_cons (d_var 0 (pv 0)) (a_cons (d_var 4 (pv 4)) a_nil)))) (s_one (s_if (t_cmp (op_dLt (hu200 hr)) (d_b (d_callB c_len (by rfl) m_len (by decide +kernel) (ab_cons (b_var 5 (pv 5)) ab_nil))) (d_b d_int) (by rfl)) (s_one (s_app 1 (by simp) (pe_bm PySem.F.plainAttrs_list PySem.F.slot_list_append PySem.F.type_list_append mt_append (pv 1) (pa_cons (d_var 5 (pv 5)) pa_nil)))) s_nil)))) (s_one (s_retV 1 (pv 1)))))))⟩)
abbrev s__law_due : Stmt := top 13
abbrev N__law_due : List Str := ["_law_banks", "_law_books", "_law_span", "_law_group", "_law_ones", "_law_mark", "_law_others", "_law_found", "_law_one", "_law_other", "_law_days", "_law_total", "_law_place", "_law_row"]
theorem sc__law_due : FnScope N__law_due ["_law_banks", "_law_books", "_law_span", "_law_group"] (defScope s__law_due) := ⟨rfl, rfl, rfl, by decide +kernel, rfl, by decide +kernel, by decide +kernel⟩
def B__law_due : Bs := (seqS (setS 4 (fL S__law_rows_of (consA (lstF (fL dSorted (consA (lstF (lcF (seqA (vF 3)) [5] (tgN 5) (asB (f2 dEq (f2 dIx (vF 5) (cF (.int 0))) (cF (.str "bank")))) (f2 dIx (vF 5) (cF (.int 1))))) nilA))) nilA))) (seqS (setS 6 (fL S__law_rows_of (consA (lstF (fL dSorted (consA (lstF (lcF (seqA (vF 3)) [5] (tgN 5) (asB (f2 dEq (f2 dIx (vF 5) (cF (.int 0))) (cF (.str "book")))) (f2 dIx (vF 5) (cF (.int 1))))) nilA))) nilA))) (seqS (setO 7 (few nilA)) (seqS (forS (seqA (vF 4)) (tgN 8) (forS (seqA (vF 6)) (tgN 9) (ifS (orT (asB (f2 dEq (fL dLen (consA (vF 8) nilA)) (cF (.int 1)))) (asB (f2 dEq (fL dLen (consA (vF 9) nilA)) (cF (.int 1))))) (seqS (setS 10 (f2 dAdd (lstF (lcF (seqA (vF 8)) [12] (tgN 12) yesT (f2 dIx (f2 dIx (vF 0) (vF 12)) (cF (.int 0))))) (lstF (lcF (seqA (vF 9)) [12] (tgN 12) yesT (f2 dIx (f2 dIx (vF 1) (vF 12)) (cF (.int 0))))))) (seqS (setS 11 (f2 dSub (fL dSum (consA (lstF (lcF (seqA (vF 8)) [12] (tgN 12) yesT (f2 dIx (f2 dIx (vF 0) (vF 12)) (cF (.int 1))))) nilA)) (fL dSum (consA (lstF (lcF (seqA (vF 9)) [12] (tgN 12) yesT (f2 dIx (f2 dIx (vF 1) (vF 12)) (cF (.int 1))))) nilA)))) (ifS (andT (asB (f2 dEq (vF 11) (cF (.int 0)))) (asB (f2 dLe (f2 dSub (fL dMax (consA (vF 10) nilA)) (fL dMin (consA (vF 10) nilA))) (vF 2)))) (appS 7 (tupF (consA (f2 dAdd (fL dLen (consA (vF 8) nilA)) (fL dLen (consA (vF 9) nilA))) (consA (vF 8) (consA (vF 9) nilA))))) nopS))) nopS))) (retS (lstF (lcF (seqA (lstF (fL dSorted (consA (vF 7) nilA)))) [13] (tgN 13) yesT (tupF (consA (f2 dIx (vF 13) (cF (.int 1))) (consA (f2 dIx (vF 13) (cF (.int 2))) nilA))))))))))
def S__law_due : List PyData → Option PyData := runF 14 4 B__law_due
theorem kd__law_due {f : Addr} {fd : FuncData} (h : Here K mg "_law_due" s__law_due ["_law_banks", "_law_books", "_law_span", "_law_group"] f fd) (m_sorted : mg "sorted" = none) (m_len : mg "len" = none) (m_sum : mg "sum" = none) (m_max : mg "max" = none) (m_min : mg "min" = none) (c__law_rows_of : Kn P w K mg base "_law_rows_of" 2 ["_law_places"] S__law_rows_of) : Kn P w K mg base "_law_due" 3 ["_law_banks", "_law_books", "_law_span", "_law_group"] S__law_due :=
  kd_of h (fn_d h.fn sc__law_due rfl rfl (by decide) fun cdv A outer s H E hr => ⟨[(7, .lst)], [], (s_cons (s_set (i := 4) sc__law_due.nd rfl (by first | exact Or.inl rfl | exact Or.inr rfl) rfl (d_callK c__law_rows_of hr (by decide) pass0 (by rfl) (a_cons (o_d (o_callB (c_sorted (hu200 hr)) (by rfl) m_sorted (by decide +kernel) (ab_cons (d_b (o_d (o_lc (own := [("_law_mark", 5)]) rfl sc__law_due.nd (i_seq (d_var 3 (pv 3))) (blkOk_by (own := [("_law_mark", 5)]) (N := N__law_due) (sc := defScope s__law_due) (by decide +kernel)) (tg_n rfl) (by decide) rfl (fun _ _ _ _ _ => (pg_name (i := 5) sc__law_due.nd rfl (by first | exact Or.inl rfl | exact Or.inr rfl))) (fun _ _ _ _ _ => (ts_one (t_cmp (op_dEq (hu200 hr)) (d_b (d_ix (b_var 5 (pv 5)) (d_b d_int) (fun _ _ => rfl))) (d_b d_str) (by rfl)))) (fun _ _ _ _ _ => (d_ix (b_var 5 (pv 5)) (d_b d_int) (fun _ _ => rfl)))))) ab_nil))) a_nil))) (s_cons (s_set (i := 6) sc__law_due.nd rfl (by first | exact Or.inl rfl | exact Or.inr rfl) rfl (d_callK c__law_rows_of hr (by decide) pass0 (by rfl) (a_cons (o_d (o_callB (c_sorted (hu200 hr)) (by rfl) m_sorted (by decide +kernel) (ab_cons (d_b (o_d (o_lc (own := [("_law_mark", 5)]) rfl sc__law_due.nd (i_seq (d_var 3 (pv 3))) (blkOk_by (own := [("_law_mark", 5)]) (N := N__law_due) (sc := defScope s__law_due) (by decide +kernel)) (tg_n rfl) (by decide) rfl (fun _ _ _ _ _ => (pg_name (i := 5) sc__law_due.nd rfl (by first | exact Or.inl rfl | exact Or.inr rfl))) (fun _ _ _ _ _ => (ts_one (t_cmp (op_dEq (hu200 hr)) (d_b (d_ix (b_var 5 (pv 5)) (d_b d_int) (fun _ _ => rfl))) (d_b d_str) (by rfl)))) (fun _ _ _ _ _ => (d_ix (b_var 5 (pv 5)) (d_b d_int) (fun _ _ => rfl)))))) ab_nil))) a_nil))) (s_cons (s_setO (i := 7) sc__law_due.nd rfl (by first | exact Or.inl rfl | exact Or.inr rfl) rfl (O' := [(7, .lst)]) rfl (o_lst a_nil)) (s_cons (s_for PassesOwn.never rfl (i_seq (d_var 4 (pv 4))) (tg_n rfl) (pg_name (i := 8) sc__law_due.nd rfl (by first | exact Or.inl rfl | exact Or.inr rfl)) (s_one (s_for PassesOwn.never rfl (i_seq (d_var 6 (pv 6))) (tg_n rfl) (pg_name (i := 9) sc__law_due.nd rfl (by first | exact Or.inl rfl | exact Or.inr rfl)) (s_one (s_if (t_w (w_or (t_cmp (op_dEq (hu200 hr)) (d_b (d_callB c_len (by rfl) m_len (by decide +kernel) (ab_cons (b_var 8 (pv 8)) ab_nil))) (d_b d_int) (by rfl)) (w_or1 (t_cmp (op_dEq (hu200 hr)) (d_b (d_callB c_len (by rfl) m_len (by decide +kernel) (ab_cons (b_var 9 (pv 9)) ab_nil))) (d_b d_int) (by rfl))))) (s_cons (s_set (i := 10) sc__law_due.nd rfl (by first | exact Or.inl rfl | exact Or.inr rfl) rfl (d_op op_dAdd (d_b (o_d (o_lc (own := [("_law_place", 12)]) rfl sc__law_due.nd (i_seq (d_var 8 (pv 8))) (blkOk_by (own := [("_law_place", 12)]) (N := N__law_due) (sc := defScope s__law_due) (by decide +kernel)) (tg_n rfl) (by decide) rfl (fun _ _ _ _ _ => (pg_name (i := 12) sc__law_due.nd rfl (by first | exact Or.inl rfl | exact Or.inr rfl))) (fun _ _ _ _ _ => ts_nil) (fun _ _ _ _ _ => (d_ix (d_b (d_ix (b_var 0 (pv 0)) (b_var 12 (pv 12)) (fun _ _ => rfl))) (d_b d_int) (fun _ _ => rfl)))))) (d_b (o_d (o_lc (own := [("_law_place", 12)]) rfl sc__law_due.nd (i_seq (d_var 9 (pv 9))) (blkOk_by (own := [("_law_place", 12)]) (N := N__law_due) (sc := defScope s__law_due) (by decide +kernel)) (tg_n rfl) (by decide) rfl (fun _ _ _ _ _ => (pg_name (i := 12) sc__law_due.nd rfl (by first | exact Or.inl rfl | exact Or.inr rfl))) (fun _ _ _ _ _ => ts_nil) (fun _ _ _ _ _ => (d_ix (d_b (d_ix (b_var 1 (pv 1)) (b_var 12 (pv 12)) (fun _ _ => rfl))) (d_b d_int) (fun _ _ => rfl)))))))) (s_cons (s_set (i := 11) sc__law_due.nd rfl (by first | exact Or.inl rfl | exact Or.inr rfl) rfl (d_op op_dSub (d_b (d_callB (c_sum rfl) (by rfl) m_sum (by decide +kernel) (ab_cons (d_b (o_d (o_lc (own := [("_law_place", 12)]) rfl sc__law_due.nd (i_seq (d_var 8 (pv 8))) (blkOk_by (own := [("_law_place", 12)]) (N := N__law_due) (sc := defScope s__law_due) (by decide +kernel)) (tg_n rfl) (by decide) rfl (fun _ _ _ _ _ => (pg_name (i := 12) sc__law_due.nd rfl (by first | exact Or.inl rfl | exact Or.inr rfl))) (fun _ _ _ _ _ => ts_nil) (fun _ _ _ _ _ => (d_ix (d_b (d_ix (b_var 0 (pv 0)) (b_var 12 (pv 12)) (fun _ _ => rfl))) (d_b d_int) (fun _ _ => rfl)))))) ab_nil))) (d_b (d_callB (c_sum rfl) (by rfl) m_sum (by decide +kernel) (ab_cons (d_b (o_d (o_lc (own := [("_law_place", 12)]) rfl sc__law_due.nd (i_seq (d_var 9 (pv 9))) (blkOk_by (own := [("_law_place", 12)]) (N := N__law_due) (sc := defScope s__law_due) (by decide +kernel)) (tg_n rfl) (by decide) rfl (fun _ _ _ _ _ => (pg_name (i := 12) sc__law_due.nd rfl (by first | exact Or.inl rfl | exact Or.inr rfl))) (fun _ _ _ _ _ => ts_nil) (fun _ _ _ _ _ => (d_ix (d_b (d_ix (b_var 1 (pv 1)) (b_var 12 (pv 12)) (fun _ _ => rfl))) (d_b d_int) (fun _ _ => rfl)))))) ab_nil))))) (s_one (s_if (t_w (w_and (t_cmp (op_dEq (hu200 hr)) (b_var 11 (pv 11)) (d_b d_int) (by rfl)) (w_and1 (t_cmp op_dLe (d_b (d_op op_dSub (d_b (d_callB (c_max rfl) (by rfl) m_max (by decide +kernel) (ab_cons (b_var 10 (pv 10)) ab_nil))) (d_b (d_callB (c_min rfl) (by rfl) m_min (by decide +kernel) (ab_cons (b_var 10 (pv 10)) ab_nil))))) (b_var 2 (pv 2)) (by rfl))))) (s_one (s_app 7 (by simp) (pe_bm PySem.F.plainAttrs_list PySem.F.slot_list_append PySem.F.type_list_append mt_append (pv 7) (pa_cons (d_tup (a_cons (d_op op_dAdd (d_b (d_callB c_len (by rfl) m_len (by decide +kernel) (ab_cons (b_var 8 (pv 8)) ab_nil))) (d_b (d_callB c_len (by rfl) m_len (by decide +kernel) (ab_cons (b_var 9 (pv 9)) ab_nil)))) (a_cons (d_var 8 (pv 8)) (a_cons (d_var 9 (pv 9)) a_nil)))) pa_nil)))) s_nil)))) s_nil))))) (s_one (s_ret (o_d (o_lc (own := [("_law_row", 13)]) rfl sc__law_due.nd (i_seq (o_d (o_callB (c_sorted (hu200 hr)) (by rfl) m_sorted (by decide +kernel) (ab_cons (b_var 7 (pv 7)) ab_nil)))) (blkOk_by (own := [("_law_row", 13)]) (N := N__law_due) (sc := defScope s__law_due) (by decide +kernel)) (tg_n rfl) (by decide) rfl (fun _ _ _ _ _ => (pg_name (i := 13) sc__law_due.nd rfl (by first | exact Or.inl rfl | exact Or.inr rfl))) (fun _ _ _ _ _ => ts_nil) (fun _ _ _ _ _ => (d_tup (a_cons (d_ix (b_var 13 (pv 13)) (d_b d_int) (fun _ _ => rfl)) (a_cons (d_ix (b_var 13 (pv 13)) (d_b d_int) (fun _ _ => rfl)) a_nil))))))))))))⟩)
abbrev s__law_is_match : Stmt := top 14
abbrev N__law_is_match : List Str := ["_law_match", "_law_place"]
theorem sc__law_is_match : FnScope N__law_is_match ["_law_match"] (defScope s__law_is_match) := ⟨rfl, rfl, rfl, by decide +kernel, rfl, by decide +kernel, by decide +kernel⟩
def B__law_is_match : Bs := (seqS (ifS (orT (notT (asB (f1 (dIsi PyData.isTuple) (vF 0)))) (asB (f2 dNe (fL dLen (consA (vF 0) nilA)) (cF (.int 2))))) (retS (cF (.bool false))) nopS) (seqS (ifS (orT (notT (asB (f1 (dIsi PyData.isTuple) (f2 dIx (vF 0) (cF (.int 0)))))) (notT (asB (f1 (dIsi PyData.isTuple) (f2 dIx (vF 0) (cF (.int 1))))))) (retS (cF (.bool false))) nopS) (seqS (forS (seqA (f2 dAdd (f2 dIx (vF 0) (cF (.int 0))) (f2 dIx (vF 0) (cF (.int 1))))) (tgN 1) (ifS (orT (notT (asB (f1 (dIsi PyData.isInt) (vF 1)))) (asB (f1 (dIsi PyData.isBool) (vF 1)))) (retS (cF (.bool false))) nopS)) (retS (cF (.bool true))))))
def S__law_is_match : List PyData → Option PyData := runF 2 1 B__law_is_match
theorem kd__law_is_match {f : Addr} {fd : FuncData} (h : Here K mg "_law_is_match" s__law_is_match ["_law_match"] f fd) (m_isinstance : mg "isinstance" = none) (m_tuple : mg "tuple" = none) (m_len : mg "len" = none) (m_int : mg "int" = none) (m_bool : mg "bool" = none)  : Kn P w K mg base "_law_is_match" 1 ["_law_match"] S__law_is_match :=
  kd_of h (fn_d h.fn sc__law_is_match rfl rfl (by decide) fun cdv A outer s H E hr => ⟨[], [], (s_cons (s_if (t_w (w_or (t_not (t_val (d_isi isi_tuple (by rfl) m_isinstance (by rfl) m_tuple (by decide +kernel) (b_var 0 (pv 0))))) (w_or1 (t_cmp (op_dNe (hu200 hr)) (d_b (d_callB c_len (by rfl) m_len (by decide +kernel) (ab_cons (b_var 0 (pv 0)) ab_nil))) (d_b d_int) (by rfl))))) (s_one (s_ret d_bl)) s_nil) (s_cons (s_if (t_w (w_or (t_not (t_val (d_isi isi_tuple (by rfl) m_isinstance (by rfl) m_tuple (by decide +kernel) (d_b (d_ix (b_var 0 (pv 0)) (d_b d_int) (fun _ _ => rfl)))))) (w_or1 (t_not (t_val (d_isi isi_tuple (by rfl) m_isinstance (by rfl) m_tuple (by decide +kernel) (d_b (d_ix (b_var 0 (pv 0)) (d_b d_int) (fun _ _ => rfl))))))))) (s_one (s_ret d_bl)) s_nil) (s_cons (s_for PassesOwn.never rfl (i_seq (d_op op_dAdd (d_b (d_ix (b_var 0 (pv 0)) (d_b d_int) (fun _ _ => rfl))) (d_b (d_ix (b_var 0 (pv 0)) (d_b d_int) (fun _ _ => rfl))))) (tg_n rfl) (pg_name (i := 1) sc__law_is_match.nd rfl (by first | exact Or.inl rfl | exact Or.inr rfl)) (s_one (s_if (t_w (w_or (t_not (t_val (d_isi isi_int (by rfl) m_isinstance (by rfl) m_int (by decide +kernel) (b_var 1 (pv 1))))) (w_or1 (t_val (d_isi isi_bool (by rfl) m_isinstance (by rfl) m_bool (by decide +kernel) (b_var 1 (pv 1))))))) (s_one (s_ret d_bl)) s_nil))) (s_one (s_ret d_bl)))))⟩)
abbrev s_law : Stmt := top 15
abbrev N_law : List Str := ["_law_script", "_law_days", "_law_scale", "_law_span", "_law_sizes", "_law_banks", "_law_k", "_law_books", "_law_parts", "_law_group", "_law_one", "_law_other", "_law_handed", "_law_found", "_law_match"]
theorem sc_law : FnScope N_law ["_law_script"] (defScope s_law) := ⟨rfl, rfl, rfl, by decide +kernel, rfl, by decide +kernel, by decide +kernel⟩
def T_law_15 : Bs := (retS (f2 dEq (vF 13) (fL S__law_due (consA (vF 5) (consA (vF 7) (consA (vF 3) (consA (vF 9) nilA)))))))
def T_law_14 : Bs := (seqS (ifS (asB (f2 dNe (lstF (lcF (seqA (vF 13)) [14] (tgN 14) (notT (asB (fL S__law_is_match (consA (vF 14) nilA)))) (vF 14))) (lstF (few nilA)))) (retS (cF (.bool false))) nopS) T_law_15)
def T_law_13 : Bs := (seqS (ifS (orT (notT (asB (f1 (dIsi PyData.isList) (vF 13)))) (orT (asB (f2 dNe (vF 10) (vF 5))) (orT (asB (f2 dNe (vF 11) (vF 7))) (asB (f2 dNe (vF 12) (vF 9)))))) (retS (cF (.bool false))) nopS) T_law_14)
def T_law_12 : Bs := (seqS (setS 13 (fL S_within (consA (vF 10) (consA (vF 11) (consA (vF 3) (consA (vF 12) nilA)))))) T_law_13)
def T_law_11 : Bs := (seqS (setS 12 (lstF (fL dList (consA (vF 9) nilA)))) T_law_12)
def T_law_10 : Bs := (seqS (setS 11 (lstF (fL dList (consA (vF 7) nilA)))) T_law_11)
def T_law_9 : Bs := (seqS (setS 10 (lstF (fL dList (consA (vF 5) nilA)))) T_law_10)
def T_law_8 : Bs := (seqS (setS 9 (f2 dIx (vF 8) (f2 dMod (fL S__law_cell_at (consA (vF 0) (consA (cF (.int 3)) nilA))) (fL dLen (consA (vF 8) nilA))))) T_law_9)
def T_law_7 : Bs := (seqS (ifS (asB (f2 dEq (vF 8) (lstF (few nilA)))) (retS (f2 dEq (fL S_within (consA (lstF (few nilA)) (consA (lstF (few nilA)) (consA (vF 3) (consA (lstF (few nilA)) nilA))))) (lstF (few nilA)))) nopS) T_law_8)
def T_law_6 : Bs := (seqS (setS 8 (fL S__law_groups (consA (vF 5) (consA (vF 7) (consA (vF 3) nilA))))) T_law_7)
def T_law_5 : Bs := (seqS (setS 7 (lstF (lcF (fL dRange (exN 1 (consA (f2 dIx (vF 4) (cF (.int 1))) nilA))) [6] (tgN 6) yesT (fL S__law_entry (consA (fL S__law_cell_at (consA (vF 0) (consA (f2 dAdd (cF (.int 9)) (vF 6)) nilA))) (consA (vF 1) (consA (vF 2) nilA))))))) T_law_6)
def T_law_4 : Bs := (seqS (setS 5 (lstF (lcF (fL dRange (exN 1 (consA (f2 dIx (vF 4) (cF (.int 0))) nilA))) [6] (tgN 6) yesT (fL S__law_entry (consA (fL S__law_cell_at (consA (vF 0) (consA (f2 dAdd (cF (.int 4)) (vF 6)) nilA))) (consA (vF 1) (consA (vF 2) nilA))))))) T_law_5)
def T_law_3 : Bs := (seqS (setS 4 (tupF (consA (f2 dMod (fL S__law_cell_at (consA (vF 0) (consA (cF (.int 0)) nilA))) (cF (.int 6))) (consA (f2 dMod (f2 dDiv (fL S__law_cell_at (consA (vF 0) (consA (cF (.int 0)) nilA))) (cF (.int 6))) (cF (.int 6))) nilA)))) T_law_4)
def T_law_2 : Bs := (seqS (setS 3 (f2 dMod (fL S__law_cell_at (consA (vF 0) (consA (cF (.int 2)) nilA))) (cF (.int 6)))) T_law_3)
def T_law_1 : Bs := (seqS (setS 2 (f2 dAdd (cF (.int 1)) (f2 dMul (f2 dMod (f2 dDiv (fL S__law_cell_at (consA (vF 0) (consA (cF (.int 1)) nilA))) (cF (.int 3))) (cF (.int 2))) (f2 dMod (f2 dDiv (fL S__law_cell_at (consA (vF 0) (consA (cF (.int 1)) nilA))) (cF (.int 6))) (f2 dPow (cF (.int 10)) (cF (.int 8))))))) T_law_2)
def B_law : Bs := (seqS (setS 1 (f2 dIx (lstF (few (consA (cF (.int 4)) (consA (cF (.int 4)) (consA (cF (.int 12)) nilA))))) (f2 dMod (fL S__law_cell_at (consA (vF 0) (consA (cF (.int 1)) nilA))) (cF (.int 3))))) T_law_1)
def S_law : List PyData → Option PyData := runF 15 1 B_law
theorem ok_law {f : Addr} {fd : FuncData} (h : Here K mg "law" s_law ["_law_script"] f fd) (m_range : mg "range" = none) (m_len : mg "len" = none) (m_list : mg "list" = none) (m_isinstance : mg "isinstance" = none) (c__law_cell_at : Kn P w K mg base "_law_cell_at" 1 ["_law_script", "_law_k"] S__law_cell_at) (c__law_entry : Kn P w K mg base "_law_entry" 1 ["_law_cell", "_law_days", "_law_scale"] S__law_entry) (c__law_groups : Kn P w K mg base "_law_groups" 1 ["_law_banks", "_law_books", "_law_span"] S__law_groups) (c_within : Kn P w K mg base "within" 4 ["banks", "books", "span", "group"] S_within) (c__law_is_match : Kn P w K mg base "_law_is_match" 1 ["_law_match"] S__law_is_match) (c__law_due : Kn P w K mg base "_law_due" 3 ["_law_banks", "_law_books", "_law_span", "_law_group"] S__law_due) : FnOk P w K mg base CX0 5 f fd ["_law_script"] (spD K S_law) :=
  fn_d h.fn sc_law rfl rfl (by decide) fun cdv A outer s H E hr => ⟨[], [], (s_cons (s_set (i := 1) sc_law.nd rfl (by first | exact Or.inl rfl | exact Or.inr rfl) rfl (d_ix (d_b (o_d (o_lst (a_cons d_int (a_cons d_int (a_cons d_int a_nil)))))) (d_b (d_op op_dMod (d_b (d_callK c__law_cell_at hr (by decide) pass0 (by rfl) (a_cons (d_var 0 (pv 0)) (a_cons d_int a_nil)))) (d_b d_int))) (fun _ _ => rfl))) (s_cons (s_set (i := 2) sc_law.nd rfl (by first | exact Or.inl rfl | exact Or.inr rfl) rfl (d_op op_dAdd (d_b d_int) (d_b (d_op op_dMul (d_b (d_op op_dMod (d_b (d_op op_dDiv (d_b (d_callK c__law_cell_at hr (by decide) pass0 (by rfl) (a_cons (d_var 0 (pv 0)) (a_cons d_int a_nil)))) (d_b d_int))) (d_b d_int))) (d_b (d_op op_dMod (d_b (d_op op_dDiv (d_b (d_callK c__law_cell_at hr (by decide) pass0 (by rfl) (a_cons (d_var 0 (pv 0)) (a_cons d_int a_nil)))) (d_b d_int))) (d_b (d_op op_dPow (d_b d_int) (d_b d_int))))))))) (s_cons (s_set (i := 3) sc_law.nd rfl (by first | exact Or.inl rfl | exact Or.inr rfl) rfl (d_op op_dMod (d_b (d_callK c__law_cell_at hr (by decide) pass0 (by rfl) (a_cons (d_var 0 (pv 0)) (a_cons d_int a_nil)))) (d_b d_int))) (s_cons (s_set (i := 4) sc_law.nd rfl (by first | exact Or.inl rfl | exact Or.inr rfl) rfl (d_tup (a_cons (d_op op_dMod (d_b (d_callK c__law_cell_at hr (by decide) pass0 (by rfl) (a_cons (d_var 0 (pv 0)) (a_cons d_int a_nil)))) (d_b d_int)) (a_cons (d_op op_dMod (d_b (d_op op_dDiv (d_b (d_callK c__law_cell_at hr (by decide) pass0 (by rfl) (a_cons (d_var 0 (pv 0)) (a_cons d_int a_nil)))) (d_b d_int))) (d_b d_int)) a_nil)))) (s_cons (s_setLc (i := 5) (own := [("_law_k", 6)]) rfl sc_law.nd rfl rfl rfl (sw_true rfl rfl rfl (by decide +kernel)) (i_range1 (by rfl) m_range (ab_cons (d_b (d_ix (b_var 4 (pv 4)) (d_b d_int) (fun _ _ => rfl))) ab_nil)) (blkOk_by (own := [("_law_k", 6)]) (N := N_law) (sc := defScope s_law) (by decide +kernel)) (tg_n rfl) (by decide) rfl (fun _ _ _ _ _ => (pg_name (i := 6) sc_law.nd rfl (by first | exact Or.inl rfl | exact Or.inr rfl))) (fun _ _ _ _ _ => ts_nil) (fun _ _ _ _ _ => (d_callK c__law_entry hr (by decide) pass0 (by rfl) (a_cons (d_callK c__law_cell_at hr (by decide) pass0 (by rfl) (a_cons (d_var 0 (pv 0)) (a_cons (d_op op_dAdd (d_b d_int) (b_var 6 (pv 6))) a_nil))) (a_cons (d_var 1 (pv 1)) (a_cons (d_var 2 (pv 2)) a_nil)))))) (s_cons (s_setLc (i := 7) (own := [("_law_k", 6)]) rfl sc_law.nd rfl rfl rfl (sw_true rfl rfl rfl (by decide +kernel)) (i_range1 (by rfl) m_range (ab_cons (d_b (d_ix (b_var 4 (pv 4)) (d_b d_int) (fun _ _ => rfl))) ab_nil)) (blkOk_by (own := [("_law_k", 6)]) (N := N_law) (sc := defScope s_law) (by decide +kernel)) (tg_n rfl) (by decide) rfl (fun _ _ _ _ _ => (pg_name (i := 6) sc_law.nd rfl (by first | exact Or.inl rfl | exact Or.inr rfl))) (fun _ _ _ _ _ => ts_nil) (fun _ _ _ _ _ => (d_callK c__law_entry hr (by decide) pass0 (by rfl) (a_cons (d_callK c__law_cell_at hr (by decide) pass0 (by rfl) (a_cons (d_var 0 (pv 0)) (a_cons (d_op op_dAdd (d_b d_int) (b_var 6 (pv 6))) a_nil))) (a_cons (d_var 1 (pv 1)) (a_cons (d_var 2 (pv 2)) a_nil)))))) (s_cons (s_set (i := 8) sc_law.nd rfl (by first | exact Or.inl rfl | exact Or.inr rfl) rfl (d_callK c__law_groups hr (by decide) pass0 (by rfl) (a_cons (d_var 5 (pv 5)) (a_cons (d_var 7 (pv 7)) (a_cons (d_var 3 (pv 3)) a_nil))))) (s_cons (s_if (t_cmp (op_dEq (hu200 hr)) (b_var 8 (pv 8)) (d_b (o_d (o_lst a_nil))) (by rfl)) (s_one (s_ret (d_cmp (op_dEq (hu200 hr)) (d_b (d_callK c_within hr (by decide) pass0 (by rfl) (a_cons (o_d (o_lst a_nil)) (a_cons (o_d (o_lst a_nil)) (a_cons (d_var 3 (pv 3)) (a_cons (o_d (o_lst a_nil)) a_nil)))))) (d_b (o_d (o_lst a_nil))) (by rfl)))) s_nil) (s_cons (s_set (i := 9) sc_law.nd rfl (by first | exact Or.inl rfl | exact Or.inr rfl) rfl (d_ix (b_var 8 (pv 8)) (d_b (d_op op_dMod (d_b (d_callK c__law_cell_at hr (by decide) pass0 (by rfl) (a_cons (d_var 0 (pv 0)) (a_cons d_int a_nil)))) (d_b (d_callB c_len (by rfl) m_len (by decide +kernel) (ab_cons (b_var 8 (pv 8)) ab_nil))))) (fun _ _ => rfl))) (s_cons (s_set (i := 10) sc_law.nd rfl (by first | exact Or.inl rfl | exact Or.inr rfl) rfl (o_d (o_callT c_list (by rfl) m_list (by decide +kernel) (ab_cons (b_var 5 (pv 5)) ab_nil)))) (s_cons (s_set (i := 11) sc_law.nd rfl (by first | exact Or.inl rfl | exact Or.inr rfl) rfl (o_d (o_callT c_list (by rfl) m_list (by decide +kernel) (ab_cons (b_var 7 (pv 7)) ab_nil)))) (s_cons (s_set (i := 12) sc_law.nd rfl (by first | exact Or.inl rfl | exact Or.inr rfl) rfl (o_d (o_callT c_list (by rfl) m_list (by decide +kernel) (ab_cons (b_var 9 (pv 9)) ab_nil)))) (s_cons (s_set (i := 13) sc_law.nd rfl (by first | exact Or.inl rfl | exact Or.inr rfl) rfl (d_callK c_within hr (by decide) pass0 (by rfl) (a_cons (d_var 10 (pv 10)) (a_cons (d_var 11 (pv 11)) (a_cons (d_var 3 (pv 3)) (a_cons (d_var 12 (pv 12)) a_nil)))))) (s_cons (s_if (t_w (w_or (t_not (t_val (d_isi isi_list (by rfl) m_isinstance (by rfl) m_list (by decide +kernel) (b_var 13 (pv 13))))) (w_or (t_cmp (op_dNe (hu200 hr)) (b_var 10 (pv 10)) (b_var 5 (pv 5)) (by rfl)) (w_or (t_cmp (op_dNe (hu200 hr)) (b_var 11 (pv 11)) (b_var 7 (pv 7)) (by rfl)) (w_or1 (t_cmp (op_dNe (hu200 hr)) (b_var 12 (pv 12)) (b_var 9 (pv 9)) (by rfl))))))) (s_one (s_ret d_bl)) s_nil) (s_cons (s_if (t_cmp (op_dNe (hu200 hr)) (d_b (o_d (o_lc (own := [("_law_match", 14)]) rfl sc_law.nd (i_seq (d_var 13 (pv 13))) (blkOk_by (own := [("_law_match", 14)]) (N := N_law) (sc := defScope s_law) (by decide +kernel)) (tg_n rfl) (by decide) rfl (fun _ _ _ _ _ => (pg_name (i := 14) sc_law.nd rfl (by first | exact Or.inl rfl | exact Or.inr rfl))) (fun _ _ _ _ _ => (ts_one (t_not (t_val (d_callK c__law_is_match hr (by decide) pass0 (by rfl) (a_cons (d_var 14 (pv 14)) a_nil)))))) (fun _ _ _ _ _ => (d_var 14 (pv 14)))))) (d_b (o_d (o_lst a_nil))) (by rfl)) (s_one (s_ret d_bl)) s_nil) (s_one (s_ret (d_cmp (op_dEq (hu200 hr)) (b_var 13 (pv 13)) (d_b (d_callK c__law_due hr (by decide) pass0 (by rfl) (a_cons (d_var 5 (pv 5)) (a_cons (d_var 7 (pv 7)) (a_cons (d_var 3 (pv 3)) (a_cons (d_var 9 (pv 9)) a_nil)))))) (by rfl)))))))))))))))))))⟩
end
end Dat
open PySem PySem.Spec PyProof.Rows L2
namespace Dat
/-! ### lists of whole numbers -/
abbrev eI (xs : List Int) : List PyData := xs.map PyData.int
theorem intsD_map (xs : List Int) : intsD (eI xs) = some xs := by
  induction xs with
  | nil => rfl
  | cons x xs ih => simp only [eI, List.map_cons, intsD] at ih ⊢; rw [ih]; rfl
theorem sum_ints (xs : List Int) : dSum [.list (eI xs)] = some (.int xs.sum) := by unfold dSum; simp only [intsD_map]; rfl
theorem max_ints {xs : List Int} (h : xs ≠ []) : dMax [.list (eI xs)] = some (.int (xs.max?.getD 0)) := by
  unfold dMax
  simp only [intsD_map, Option.bind_some]
  cases e : xs.max? with
  | none => exact absurd (List.max?_eq_none_iff.mp e) h
  | some m => rfl
theorem min_ints {xs : List Int} (h : xs ≠ []) : dMin [.list (eI xs)] = some (.int (xs.min?.getD 0)) := by
  unfold dMin
  simp only [intsD_map, Option.bind_some]
  cases e : xs.min? with
  | none => exact absurd (List.min?_eq_none_iff.mp e) h
  | some m => rfl
theorem all_ints : ∀ {ds : List PyData}, (∀ d, d ∈ ds → ∃ i, d = .int i) → ∃ xs, ds = eI xs
  | [], _ => ⟨[], rfl⟩
  | d :: ds, h => by
    obtain ⟨i, rfl⟩ := h d (by simp)
    obtain ⟨xs, rfl⟩ := all_ints (ds := ds) fun d hd => h d (by simp [hd])
    exact ⟨i :: xs, rfl⟩
theorem sort_ints (xs : List Int) : ∃ ys, dSorted [.list (eI xs)] = some (eI ys) ∧ ys.length = xs.length := by
  have hok : sortOk (eI xs) = true := by
    unfold sortOk
    simp only [Bool.and_eq_true, Bool.or_eq_true, List.all_eq_true, List.mem_map]
    refine ⟨⟨?_, .inr ?_⟩, ?_⟩
    · rintro x ⟨a, _, rfl⟩ y ⟨b, _, rfl⟩; rfl
    · rintro x ⟨a, _, rfl⟩; rfl
    · rintro x ⟨a, _, rfl⟩; rfl
  unfold dSorted
  simp only [hok, if_true]
  have hp := List.mergeSort_perm (eI xs) (PySem.W.dataLe false id)
  obtain ⟨ys, hy⟩ := all_ints (ds := (eI xs).mergeSort (PySem.W.dataLe false id)) fun d hd => by
    obtain ⟨i, _, rfl⟩ := List.mem_map.mp (hp.mem_iff.mp hd)
    exact ⟨i, rfl⟩
  refine ⟨ys, by rw [hy], ?_⟩
  have := hp.length_eq
  rw [hy] at this
  simpa using this
theorem upFrom_succ (lo : Int) (n : Nat) : upFrom lo (n + 1) = .int lo :: upFrom (lo + 1) n := by
  unfold upFrom
  rw [List.range_succ_eq_map, List.map_cons, List.map_map]
  simp only [Int.natCast_zero, Int.add_zero, List.cons.injEq, true_and]
  apply List.map_congr_left
  intro k _
  simp only [Function.comp_apply, PyData.int.injEq, Nat.succ_eq_add_one]
  omega
theorem upFrom_zero (lo : Int) : upFrom lo 0 = [] := rfl
/-! ### shapes -/
def shp : List Int → Int → Bool
  | [a], n => decide (0 ≤ a ∧ a < n)
  | [a, b], n => decide (0 ≤ a ∧ a < n ∧ 0 ≤ b ∧ b < n ∧ a < b)
  | [a, b, c], n => decide (0 ≤ a ∧ a < n ∧ 0 ≤ b ∧ b < n ∧ a < b ∧ 0 ≤ c ∧ c < n ∧ b < c)
  | _, _ => false
theorem shp_mem {ps : List Int} {n : Int} (h : shp ps n = true) : ps ≠ [] ∧ ps.length ≤ 3 ∧ ∀ p, p ∈ ps → 0 ≤ p ∧ p < n := by
  match ps with
  | [] => cases h
  | [a] => simp [shp] at h; simp; omega
  | [a, b] => simp [shp] at h; simp; omega
  | [a, b, c] => simp [shp] at h; simp; omega
  | a :: b :: c :: d :: r => cases h
theorem shaped (ps : List Int) (n : Int) (hl : ps.length ≤ 1000) (d : PyData) (hd : d = .list (eI ps) ∨ d = .tuple (eI ps)) : S_is_shaped [d, .int n] = some (.bool (shp ps n)) := by
  unfold S_is_shaped B_is_shaped
  have one : ∀ ps : List Int, dLen [d] = some (.int (ps.length : Nat)) → dLen [d] = some (.int ps.length) := fun _ h => h
  have hlen : dLen [d] = some (.int ps.length) := by rcases hd with rfl | rfl <;> simp [eI]
  have hix : ∀ i, dIx d (.int i) = atI (eI ps) i := by rcases hd with rfl | rfl <;> simp
  match ps with
  | [] => simp [hlen, shp]
  | [a] =>
    by_cases h1 : 0 ≤ a <;> by_cases h2 : a < n <;> simp [hlen, hix, shp, upFrom_succ, upFrom_zero, forGo, h1, h2, eI]
  | [a, b] =>
    by_cases h1 : 0 ≤ a <;> by_cases h2 : a < n <;> by_cases h3 : 0 ≤ b <;> by_cases h4 : b < n <;> by_cases h5 : a < b <;> simp [hlen, hix, shp, upFrom_succ, upFrom_zero, forGo, h1, h2, h3, h4, h5, eI, Int.not_le.mpr, Int.not_lt.mp] <;> omega
  | [a, b, c] =>
    by_cases h1 : 0 ≤ a ∧ a < n
    · by_cases h3 : 0 ≤ b ∧ b < n ∧ a < b
      · by_cases h6 : 0 ≤ c ∧ c < n ∧ b < c
        · simp [hlen, hix, shp, upFrom_succ, upFrom_zero, forGo, h1, h3, h6, eI, Int.not_le.mpr]
        · have h7 : ¬ (0 ≤ c ∧ c < n) ∨ c ≤ b := by omega
          by_cases h8 : 0 ≤ c <;> by_cases h9 : c < n <;> by_cases h10 : c ≤ b <;> simp [hlen, hix, shp, upFrom_succ, upFrom_zero, forGo, h1, h3, h8, h9, h10, eI, Int.not_le.mpr] <;> omega
      · by_cases h8 : 0 ≤ b <;> by_cases h9 : b < n <;> by_cases h10 : b ≤ a <;> simp [hlen, hix, shp, upFrom_succ, upFrom_zero, forGo, h1, h8, h9, h10, eI, Int.not_le.mpr] <;> omega
    · by_cases h8 : 0 ≤ a <;> by_cases h9 : a < n <;> simp [hlen, hix, shp, upFrom_succ, upFrom_zero, forGo, h8, h9, eI] <;> omega
  | a :: b :: c :: e :: r =>
    have hm : 4 ≤ (a :: b :: c :: e :: r).length := by simp
    have hs : shp (a :: b :: c :: e :: r) n = false := rfl
    rw [hs]
    generalize (a :: b :: c :: e :: r).length = m at hlen hm
    simp [hlen, show ¬ ((m : Int) ≤ 3) by omega, show (1 : Int) ≤ m by omega]
/-! ### fits -/
def eb (es : List Entry) (p : Int) : Entry := es.getD p.toNat (0, 0)
theorem eb_at {es : List Entry} {p : Int} (h : 0 ≤ p ∧ p < es.length) : atI (es.map eEntry) p = some (eEntry (eb es p)) := by
  obtain ⟨k, rfl⟩ : ∃ k : Nat, p = k := ⟨p.toNat, by omega⟩
  have hk : k < es.length := by omega
  refine atI_nat ?_
  simp [eb, List.getElem?_map, hk]
abbrev eP (ones others : List Int) : PyData := .tuple [.tuple (eI ones), .tuple (eI others)]
def dysOf (banks books : List Entry) (ones others : List Int) : List Int := ones.map (fun p => (eb banks p).1) ++ others.map (fun p => (eb books p).1)
def fitsB (banks books : List Entry) (span : Int) (ones others : List Int) : Bool :=
  shp ones banks.length && shp others books.length && !(decide (1 < ones.length) && decide (1 < others.length)) && decide ((ones.map fun p => (eb banks p).2).sum = (others.map fun p => (eb books p).2).sum) &&
    decide ((dysOf banks books ones others).max?.getD 0 - (dysOf banks books ones others).min?.getD 0 ≤ span)
theorem lc_ix {es : List Entry} {ps : List Int} {i v : Nat} {ρ : Dv} (hv : v ≠ i) (hi : i < ρ.length) (h0 : ρ[v]? = some (some (.list (es.map eEntry)))) (h : ∀ p, p ∈ ps → 0 ≤ p ∧ p < es.length) :
    lcGo (tgN i) yesT (f2 dIx (vF v) (vF i)) ρ (eI ps) = some (ps.map fun p => eEntry (eb es p)) :=
  lc_map PyData.int _ ps fun p hp => by
    simp [List.getElem?_set_ne (Ne.symm hv), h0, hi, eb_at (h p hp)]
theorem lc_ix2 {es : List Entry} {ps : List Int} {i v : Nat} {ρ : Dv} {c : Int} (g : Entry → Int) (hg : ∀ e : Entry, atI [PyData.int e.1, .int e.2] c = some (.int (g e))) (hv : v ≠ i) (hi : i < ρ.length) (h0 : ρ[v]? = some (some (.list (es.map eEntry)))) (h : ∀ p, p ∈ ps → 0 ≤ p ∧ p < es.length) :
    lcGo (tgN i) yesT (f2 dIx (f2 dIx (vF v) (vF i)) (cF (.int c))) ρ (eI ps) = some (eI (ps.map fun p => g (eb es p))) := by
  rw [lc_map PyData.int (fun p => .int (g (eb es p))) ps fun p hp => by
    simp [List.getElem?_set_ne (Ne.symm hv), h0, hi, eb_at (h p hp)]
    simp [eEntry, hg]]
  simp [eI]
theorem lc_part {ps : List Entry} {i : Nat} {ρ : Dv} {c : Int} (g : Entry → Int) (hg : ∀ e : Entry, atI [PyData.int e.1, .int e.2] c = some (.int (g e))) (hi : i < ρ.length) :
    lcGo (tgN i) yesT (f2 dIx (vF i) (cF (.int c))) ρ (ps.map eEntry) = some (eI (ps.map g)) := by
  rw [lc_map eEntry (fun e => .int (g e)) ps fun p hp => by
    simp [hi]
    simp [eEntry, hg]]
  simp [eI]
theorem shaped_l {ps : List Int} {n : Int} (h : ps.length ≤ 1000) : S_is_shaped [.list (eI ps), .int n] = some (.bool (shp ps n)) := shaped ps n h _ (.inl rfl)
theorem shaped_t {ps : List Int} {n : Int} (h : ps.length ≤ 1000) : S_is_shaped [.tuple (eI ps), .int n] = some (.bool (shp ps n)) := shaped ps n h _ (.inr rfl)
theorem fits_eq {banks books : List Entry} {span : Int} {ones others : List Int} (h1 : ones.length ≤ 1000) (h2 : others.length ≤ 1000) :
    S_fits [.list (banks.map eEntry), .list (books.map eEntry), .int span, eP ones others] = some (.bool (fitsB banks books span ones others)) := by
  unfold S_fits B_fits
  have s1 : S_is_shaped [.tuple (eI ones), .int banks.length] = _ := shaped_t h1
  have s2 : S_is_shaped [.tuple (eI others), .int books.length] = _ := shaped_t h2
  cases c1 : shp ones banks.length with
  | false => simp [s1, c1, fitsB]
  | true =>
    cases c2 : shp others books.length with
    | false => simp [s1, s2, c1, c2, fitsB]
    | true =>
      obtain ⟨n1, l1, m1⟩ := shp_mem c1
      obtain ⟨n2, l2, m2⟩ := shp_mem c2
      by_cases c3 : 1 < ones.length ∧ 1 < others.length
      · have d1 : (1 : Int) < ones.length := by omega
        have d2 : (1 : Int) < others.length := by omega
        simp [s1, s2, c1, c2, fitsB, T_fits_1, c3.1, c3.2, d1, d2]
      · have c3' : (decide (1 < ones.length) && decide (1 < others.length)) = false := by simpa using fun h => c3 h
        have key : ∀ ρ', (T_fits_2 [some (.list (banks.map eEntry)), some (.list (books.map eEntry)), some (.int span), some (eP ones others), none, none, none, none, none]) = some ρ' → (T_fits_1 [some (.list (banks.map eEntry)), some (.list (books.map eEntry)), some (.int span), some (eP ones others), none, none, none, none, none]) = some ρ' := by
          intro ρ' h
          unfold T_fits_1
          by_cases d1 : (1 : Int) < ones.length <;> by_cases d2 : (1 : Int) < others.length <;> first | exact absurd ⟨by omega, by omega⟩ c3 | (simp [d1, d2]; exact h)
        have hd : (dysOf banks books ones others) ≠ [] := by
          unfold dysOf
          intro z
          exact n1 (by simpa using (List.append_eq_nil_iff.mp z).1)
        have e1 : ∀ x : Option PyData, lcGo (tgN 5) yesT (f2 dIx (vF 0) (vF 5)) [some (.list (banks.map eEntry)), some (.list (books.map eEntry)), some (.int span), some (eP ones others), none, x, none, none, none] (eI ones) = _ := fun x => lc_ix (es := banks) (by decide) (by simp) rfl m1
        have e2 : ∀ x y : Option PyData, lcGo (tgN 5) yesT (f2 dIx (vF 1) (vF 5)) [some (.list (banks.map eEntry)), some (.list (books.map eEntry)), some (.int span), some (eP ones others), x, y, none, none, none] (eI others) = _ := fun x y => lc_ix (es := books) (by decide) (by simp) rfl m2
        have fin : ∃ ρ', T_fits_2 [some (.list (banks.map eEntry)), some (.list (books.map eEntry)), some (.int span), some (eP ones others), none, none, none, none, none] = some (.ret (.bool (fitsB banks books span ones others)) ρ') := by
          unfold T_fits_2 T_fits_3 T_fits_4
          simp only [e_seqS, e_setS, e_lstF, e_lcF, e_seqA, e_f2, e_vF, e_cF, e_wipeC, e_wipeN, List.getElem?_cons_succ, List.getElem?_cons_zero, Option.join_some, Option.bind_some, e_dIxT, at0, at1, List.set_cons_succ, List.set_cons_zero, Option.map_some, e1, e2]
          have hm : ∀ (es : List Entry) (ps : List Int), (ps.map fun p => eEntry (eb es p)) = (ps.map (eb es)).map eEntry := fun es ps => by simp
          have comp2 : ∀ (es : List Entry) (ps : List Int), (ps.map (eb es)).map (·.2) = ps.map fun p => (eb es p).2 := fun es ps => by simp
          have comp1 : ∀ (es : List Entry) (ps : List Int), (ps.map (eb es)).map (·.1) = ps.map fun p => (eb es p).1 := fun es ps => by simp
          have p2 : ∀ (ρ : Dv) (ps : List Entry), 7 < ρ.length → lcGo (tgN 7) yesT (f2 dIx (vF 7) (cF (.int 1))) ρ (ps.map eEntry) = some (eI (ps.map (·.2))) := fun ρ ps h => lc_part (·.2) (fun e => at1) h
          have p1 : ∀ (ρ : Dv) (ps : List Entry), 7 < ρ.length → lcGo (tgN 7) yesT (f2 dIx (vF 7) (cF (.int 0))) ρ (ps.map eEntry) = some (eI (ps.map (·.1))) := fun ρ ps h => lc_part (·.1) (fun e => at0) h
          simp only [hm, e_ifS, e_asB, e_f2, e_fL, e_consA, e_nilA, e_lstF, e_lcF, e_seqA, e_vF, List.getElem?_cons_succ, List.getElem?_cons_zero, Option.join_some, Option.bind_some, Option.map_some, e_wipeC, e_wipeN, List.set_cons_succ, List.set_cons_zero]
          rw [p2 _ _ (by simp), p2 _ _ (by simp)]
          simp only [Option.bind_some, Option.map_some, sum_ints, e_neI, comp2]
          by_cases c4 : (ones.map fun p => (eb banks p).2).sum = (others.map fun p => (eb books p).2).sum
          · simp only [c4, decide_true, Bool.not_true]
            unfold T_fits_5 T_fits_6
            have hl : ones.length + others.length ≤ 16777216 := by omega
            simp [hl]
            rw [← List.map_map, ← List.map_map, ← List.map_append, p1 _ _ (by simp)]
            have hdd : (ones.map (eb banks) ++ others.map (eb books)).map (·.1) = dysOf banks books ones others := by rw [List.map_append, comp1, comp1]; rfl
            simp only [hdd, Option.map_some, Option.bind_some]
            simp [max_ints hd, min_ints hd, fitsB, c1, c2, c3', c4]
          · simp only [c4, decide_false, Bool.not_false]
            simp [fitsB, c1, c2, c3', c4]
        obtain ⟨ρ', fin⟩ := fin
        simp [s1, s2, c1, c2, key _ fin]
/-! ### an order from a strict one -/
structure SLt {α : Type} (lt : α → α → Bool) : Prop where
  irr : ∀ a, lt a a = false
  tr : ∀ a b c, lt a b = true → lt b c = true → lt a c = true
  tri : ∀ a b, lt a b = true ∨ a = b ∨ lt b a = true
def leOf {α : Type} (lt : α → α → Bool) (a b : α) : Bool := !lt b a
theorem SLt.asym {α : Type} {lt : α → α → Bool} (h : SLt lt) {a b : α} (x : lt a b = true) : lt b a = false := by
  cases e : lt b a with
  | false => rfl
  | true => have := h.tr _ _ _ x e; rw [h.irr] at this; cases this
theorem SLt.trans {α : Type} {lt : α → α → Bool} (h : SLt lt) {a b c : α} (x : leOf lt a b = true) (y : leOf lt b c = true) : leOf lt a c = true := by
  unfold leOf at *
  simp only [Bool.not_eq_true'] at *
  cases e : lt c a with
  | false => rfl
  | true =>
    rcases h.tri a b with z | z | z
    · rw [h.tr _ _ _ e z] at y; cases y
    · subst z; rw [e] at y; cases y
    · rw [z] at x; cases x
theorem SLt.total {α : Type} {lt : α → α → Bool} (h : SLt lt) (a b : α) : (leOf lt a b || leOf lt b a) = true := by
  unfold leOf
  cases e : lt b a with
  | false => rfl
  | true => rw [h.asym e]; rfl
theorem SLt.anti {α : Type} {lt : α → α → Bool} (h : SLt lt) {a b : α} (x : leOf lt a b = true) (y : leOf lt b a = true) : a = b := by
  unfold leOf at *
  simp only [Bool.not_eq_true'] at *
  rcases h.tri a b with z | z | z
  · rw [z] at y; cases y
  · exact z
  · rw [z] at x; cases x
theorem SLt.sort_eq {α : Type} {lt : α → α → Bool} (h : SLt lt) {xs ys : List α} (p : xs.Perm ys) : xs.mergeSort (leOf lt) = ys.mergeSort (leOf lt) := by
  have s1 := List.pairwise_mergeSort (le := leOf lt) (fun _ _ _ => h.trans) h.total xs
  have s2 := List.pairwise_mergeSort (le := leOf lt) (fun _ _ _ => h.trans) h.total ys
  have pp : (xs.mergeSort (leOf lt)).Perm (ys.mergeSort (leOf lt)) := ((List.mergeSort_perm _ _).trans p).trans (List.mergeSort_perm _ _).symm
  exact pp.eq_of_pairwise (fun a b _ _ => h.anti) s1 s2
/-! ### rows of whole numbers, in order -/
def ltI : List Int → List Int → Bool
  | [], [] => false
  | [], _ :: _ => true
  | _ :: _, [] => false
  | x :: xs, y :: ys => if x = y then ltI xs ys else decide (x < y)
theorem lt_ints : ∀ xs ys : List Int, ltAll (eI xs) (eI ys) = ltI xs ys
  | [], [] => ltAll_nil
  | [], _ :: _ => ltAll_nilC
  | _ :: _, [] => ltAll_consN
  | x :: xs, y :: ys => by
    have ih := lt_ints xs ys
    simp only [eI, List.map_cons] at ih ⊢
    rw [ltAll_cons rfl, ih, PySem.W.dataLt_int]
    simp only [PyData.eqv, ltI, beq_iff_eq]
theorem ltI_s : SLt ltI := by
  refine ⟨fun a => ?_, fun a b c => ?_, fun a b => ?_⟩
  · induction a with
    | nil => rfl
    | cons x xs ih => simp [ltI, ih]
  · induction a generalizing b c with
    | nil => cases b <;> cases c <;> simp [ltI]
    | cons x xs ih =>
      cases b with
      | nil => simp [ltI]
      | cons y ys =>
        cases c with
        | nil => simp [ltI]
        | cons z zs =>
          simp only [ltI]
          by_cases h1 : x = y
          · subst h1
            by_cases h2 : x = z
            · subst h2; simpa using ih ys zs
            · simp [h2]
          · by_cases h2 : y = z
            · subst h2; simp [h1]; exact fun p _ => p
            · by_cases h3 : x = z
              · subst h3; simp [h1, h2]; omega
              · simp [h1, h2, h3]; omega
  · induction a generalizing b with
    | nil => cases b <;> simp [ltI]
    | cons x xs ih =>
      cases b with
      | nil => simp [ltI]
      | cons y ys =>
        simp only [ltI]
        by_cases h1 : x = y
        · subst h1
          rcases ih ys with z | z | z <;> simp [z]
        · have h2 : ¬ y = x := fun z => h1 z.symm
          simp [h1, h2]; omega
theorem eqv_tupI (xs ys : List Int) : PyData.eqv (.tuple (eI xs)) (.tuple (eI ys)) = decide (xs = ys) := by
  simp only [PyData.eqv]
  exact eqvAll_map (enc := PyData.int) (fun a b => by simp only [PyData.eqv, Bool.beq_eq_decide_eq]) xs ys
/-! ### matches -/
abbrev Mt := List Int × List Int
def eMt (m : Mt) : PyData := eP m.1 m.2
def nMt (m : Mt) : Int := m.1.length + m.2.length
def mtLt (a b : Mt) : Bool := if nMt a = nMt b then (if a.1 = b.1 then ltI a.2 b.2 else ltI a.1 b.1) else decide (nMt a < nMt b)
theorem mtLt_s : SLt mtLt := by
  refine ⟨fun a => ?_, fun a b c => ?_, fun a b => ?_⟩
  · simp [mtLt, ltI_s.irr]
  · obtain ⟨a1, a2⟩ := a
    obtain ⟨b1, b2⟩ := b
    obtain ⟨c1, c2⟩ := c
    simp only [mtLt]
    generalize nMt (a1, a2) = x
    generalize nMt (b1, b2) = y
    generalize nMt (c1, c2) = z
    by_cases h1 : x = y
    · subst h1
      by_cases h2 : x = z
      · subst h2
        simp only [if_true]
        by_cases h3 : a1 = b1
        · subst h3
          by_cases h4 : a1 = c1
          · subst h4; simpa using ltI_s.tr a2 b2 c2
          · simp [h4]
        · by_cases h4 : b1 = c1
          · subst h4; simp [h3]; exact fun p _ => p
          · by_cases h5 : a1 = c1
            · subst h5
              simp only [h3, h4, if_false, if_true]
              intro p q
              have := ltI_s.tr _ _ _ p q
              rw [ltI_s.irr] at this; cases this
            · simp only [h3, h4, h5, if_false]
              exact ltI_s.tr _ _ _
      · simp [h2]
    · by_cases h2 : y = z
      · subst h2; simp [h1]; exact fun p _ => p
      · by_cases h3 : x = z
        · subst h3; simp [h1, h2]; omega
        · simp [h1, h2, h3]; omega
  · obtain ⟨a1, a2⟩ := a
    obtain ⟨b1, b2⟩ := b
    simp only [mtLt]
    by_cases h1 : nMt (a1, a2) = nMt (b1, b2)
    · simp only [h1, if_true]
      by_cases h2 : a1 = b1
      · subst h2
        rcases ltI_s.tri a2 b2 with z | z | z <;> simp [z]
      · have h3 : ¬ b1 = a1 := fun z => h2 z.symm
        rcases ltI_s.tri a1 b1 with z | z | z
        · simp [h2, z]
        · exact absurd z h2
        · simp [h3, z]
    · have h2 : ¬ nMt (b1, b2) = nMt (a1, a2) := fun z => h1 z.symm
      simp [h1, h2]; omega
theorem eqv_mt (a b : Mt) : PyData.eqv (eMt a) (eMt b) = decide (a = b) := by
  obtain ⟨a1, a2⟩ := a
  obtain ⟨b1, b2⟩ := b
  have h1 := eqv_tupI a1 b1
  have h2 := eqv_tupI a2 b2
  simp only [eMt, eP]
  rw [show PyData.eqv (.tuple [.tuple (eI a1), .tuple (eI a2)]) (.tuple [.tuple (eI b1), .tuple (eI b2)]) = (PyData.eqv (.tuple (eI a1)) (.tuple (eI b1)) && (PyData.eqv (.tuple (eI a2)) (.tuple (eI b2)) && true)) by simp only [PyData.eqv, PyData.eqvAll]]
  rw [h1, h2, Bool.eq_iff_iff]
  simp
theorem alike_tupI (xs ys : List Int) : PySem.W.alike (.tuple (eI xs)) (.tuple (eI ys)) = true := by
  simp only [PySem.W.alike]
  exact PySem.W.alike_ints xs ys
theorem alike_mt (a b : Mt) : PySem.W.alike (eMt a) (eMt b) = true := by
  have h1 := alike_tupI a.1 b.1
  have h2 := alike_tupI a.2 b.2
  simp only [eMt, eP]
  rw [PySem.W.alike]
  simp only [PySem.W.alikeAll, h1, h2, Bool.and_self]
theorem depthI (xs : List Int) : (PyData.tuple (eI xs)).depth = 1 := by
  simp only [PyData.depth]
  have : PyData.depthAll (eI xs) = 0 := by
    have h : PyData.depthAll (eI xs) ≤ 0 := depthAll_map (enc := PyData.int) (n := 0) (fun a => by simp [PyData.depth]) xs
    omega
  omega
theorem depth_mt (m : Mt) : (eMt m).depth = 2 := by
  have h1 := depthI m.1
  have h2 := depthI m.2
  simp only [eMt, eP]
  rw [PyData.depth]
  simp only [PyData.depthAll, h1, h2]
  rfl
theorem lt_mt (a b : Mt) : PySem.W.dataLt (eMt a) (eMt b) = if a.1 = b.1 then ltI a.2 b.2 else ltI a.1 b.1 := by
  obtain ⟨a1, a2⟩ := a
  obtain ⟨b1, b2⟩ := b
  simp only [eMt, eP]
  rw [lt_tuple, ltAll_cons (alike_tupI _ _), ltAll_cons (alike_tupI _ _), ltAll_nil, eqv_tupI, eqv_tupI, lt_tuple, lt_tuple, lt_ints, lt_ints]
  by_cases h1 : a1 = b1
  · subst h1
    by_cases h2 : a2 = b2
    · subst h2; simp [ltI_s.irr]
    · simp [h2]
  · simp [h1]
/-- the key of a match -/
def eRank (m : Mt) : PyData := .tuple [.int (nMt m), eMt m]
theorem lt_rank (a b : Mt) : PySem.W.dataLt (eRank a) (eRank b) = mtLt a b := by
  unfold eRank mtLt
  rw [lt_tuple, ltAll_cons rfl, ltAll_cons (alike_mt a b), ltAll_nil, eqv_mt, lt_mt, PySem.W.dataLt_int]
  simp only [PyData.eqv, beq_iff_eq]
  by_cases h : nMt a = nMt b
  · simp only [h, if_true]
    by_cases h2 : a = b
    · subst h2; simp [ltI_s.irr]
    · simp only [h2, decide_false]
      rfl
  · simp [h]
theorem alike_rank (a b : Mt) : PySem.W.alike (eRank a) (eRank b) = true := by
  have h := alike_mt a b
  unfold eRank
  rw [PySem.W.alike]
  simp only [PySem.W.alikeAll, h, Bool.and_true]
  rfl
theorem depth_rank (m : Mt) : (eRank m).depth = 3 := by
  have h := depth_mt m
  unfold eRank
  rw [PyData.depth]
  simp only [PyData.depthAll, h]
  rfl
theorem rank_eq (m : Mt) : S_rank [eMt m] = some (eRank m) := by
  unfold S_rank B_rank
  simp [eMt, eRank, nMt]
theorem key_rank (m : Mt) : keyD S_rank (eMt m) = eRank m := by unfold keyD; rw [rank_eq]; rfl
theorem sort_mts (ms : List Mt) : dSortK S_rank [.list (ms.map eMt)] = some ((ms.mergeSort (leOf mtLt)).map eMt) := by
  unfold dSortK
  have h1 : ((ms.map eMt).all fun x => (S_rank [x]).isSome) = true := by
    rw [List.all_eq_true]
    intro x hx
    obtain ⟨m, _, rfl⟩ := List.mem_map.mp hx
    rw [rank_eq]; rfl
  have h2 : (ms.map eMt).map (keyD S_rank) = ms.map eRank := by
    rw [List.map_map]
    exact List.map_congr_left fun m _ => key_rank m
  have h3 : sortOk (ms.map eRank) = true := by
    unfold sortOk
    simp only [Bool.and_eq_true, Bool.or_eq_true, List.all_eq_true, List.mem_map]
    refine ⟨⟨?_, .inl ?_⟩, ?_⟩
    · rintro x ⟨a, _, rfl⟩ y ⟨b, _, rfl⟩; exact alike_rank a b
    · rintro x ⟨a, _, rfl⟩; rfl
    · rintro x ⟨a, _, rfl⟩; exact shal_of (depth_rank a)
  simp only [h1, h2, h3, Bool.and_self, if_true]
  congr 1
  refine (PySem.W.sort_maps eMt fun a _ b _ => ?_).symm
  rw [PySem.W.dataLe_eq]
  simp only [cond_false, key_rank, lt_rank, leOf]
/-- the law's own rows -/
def eRowM (m : Mt) : PyData := .tuple [.int (nMt m), .tuple (eI m.1), .tuple (eI m.2)]
theorem lt_rowM (a b : Mt) : PySem.W.dataLt (eRowM a) (eRowM b) = mtLt a b := by
  obtain ⟨a1, a2⟩ := a
  obtain ⟨b1, b2⟩ := b
  unfold eRowM mtLt
  simp only
  rw [lt_tuple, ltAll_cons rfl, ltAll_cons (alike_tupI _ _), ltAll_cons (alike_tupI _ _), ltAll_nil, eqv_tupI, eqv_tupI, lt_tuple, lt_tuple, lt_ints, lt_ints, PySem.W.dataLt_int]
  simp only [PyData.eqv, beq_iff_eq]
  by_cases h : nMt (a1, a2) = nMt (b1, b2)
  · simp only [h, if_true]
    by_cases h1 : a1 = b1
    · subst h1
      by_cases h2 : a2 = b2
      · subst h2; simp [ltI_s.irr]
      · simp [h2]
    · simp [h1]
  · simp [h]
theorem sort_rowsM (ms : List Mt) : dSorted [.list (ms.map eRowM)] = some ((ms.mergeSort (leOf mtLt)).map eRowM) := by
  unfold dSorted
  have hok : sortOk (ms.map eRowM) = true := by
    unfold sortOk
    simp only [Bool.and_eq_true, Bool.or_eq_true, List.all_eq_true, List.mem_map]
    refine ⟨⟨?_, .inl ?_⟩, ?_⟩
    · rintro x ⟨a, _, rfl⟩ y ⟨b, _, rfl⟩
      unfold eRowM
      rw [PySem.W.alike]
      simp only [PySem.W.alikeAll, alike_tupI, Bool.and_true]
      rfl
    · rintro x ⟨a, _, rfl⟩; rfl
    · rintro x ⟨a, _, rfl⟩
      have h1 := depthI a.1
      have h2 := depthI a.2
      refine shal_of (n := 2) ?_
      unfold eRowM
      rw [PyData.depth]
      simp only [PyData.depthAll, h1, h2]
      rfl
  simp only [hok, if_true]
  congr 1
  refine (PySem.W.sort_maps eRowM fun a _ b _ => ?_).symm
  rw [PySem.W.dataLe_eq]
  simp only [id, cond_false, lt_rowM, leOf]
/-! ### whole numbers sorted -/
def ltII (a b : Int) : Bool := decide (a < b)
theorem ltII_s : SLt ltII := ⟨fun a => by simp [ltII], fun a b c => by simp [ltII]; omega, fun a b => by simp [ltII]; omega⟩
theorem sort_intsE (xs : List Int) : dSorted [.list (eI xs)] = some (eI (xs.mergeSort (leOf ltII))) := by
  unfold dSorted
  have hok : sortOk (eI xs) = true := by
    unfold sortOk
    simp only [Bool.and_eq_true, Bool.or_eq_true, List.all_eq_true, List.mem_map]
    refine ⟨⟨?_, .inr ?_⟩, ?_⟩
    · rintro x ⟨a, _, rfl⟩ y ⟨b, _, rfl⟩; rfl
    · rintro x ⟨a, _, rfl⟩; rfl
    · rintro x ⟨a, _, rfl⟩; rfl
  simp only [hok, if_true]
  congr 1
  refine (PySem.W.sort_maps PyData.int fun a _ b _ => ?_).symm
  rw [PySem.W.dataLe_eq]
  simp only [id, cond_false, PySem.W.dataLt_int, leOf, ltII]
theorem sorted_strictI {xs : List Int} (h : xs.Nodup) : (xs.mergeSort (leOf ltII)).Pairwise (· < ·) := by
  have s1 := List.pairwise_mergeSort (le := leOf ltII) (fun _ _ _ => ltII_s.trans) ltII_s.total xs
  have s2 : (xs.mergeSort (leOf ltII)).Nodup := (List.mergeSort_perm xs _).nodup_iff.mpr h
  exact (s1.and s2).imp fun {a b} ⟨p, q⟩ => by
    simp [leOf, ltII] at p
    omega
end Dat
open PySem PySem.Spec PyProof.Rows L2
namespace Dat
/-! ### rows of one to three places -/
abbrev eT (xs : List Int) : PyData := .tuple (eI xs)
def rows2 (p : Int) : List Int → List (List Int)
  | [] => []
  | q :: r => [p, q] :: (r.map (fun k => [p, q, k]) ++ rows2 p r)
def rowsP : List Int → List (List Int)
  | [] => []
  | p :: r => [p] :: (rows2 p r ++ rowsP r)
theorem at_pre {ps pre post : List Int} {v : Int} (h : ps = pre ++ v :: post) : atI (eI ps) (pre.length : Int) = some (.int v) := atI_nat (by rw [h]; simp [eI])
theorem loop3 {ps : List Int} {i j : Nat} {p q : Int} (hp : atI (eI ps) (i : Int) = some (.int p)) (hq : atI (eI ps) (j : Int) = some (.int q)) : ∀ (post pre : List Int) (fs : List (List Int)) (k0 : Option PyData), ps = pre ++ post → fs.length + post.length ≤ 10000 →
    ∃ k1, forGo (tgN 4) (appS 1 (tupF (consA (f2 dIx (vF 0) (vF 2)) (consA (f2 dIx (vF 0) (vF 3)) (consA (f2 dIx (vF 0) (vF 4)) nilA))))) (upFrom pre.length post.length) [some (.list (eI ps)), some (.list (fs.map eT)), some (.int i), some (.int j), k0] =
      some (.nx [some (.list (eI ps)), some (.list ((fs ++ post.map (fun k => [p, q, k])).map eT)), some (.int i), some (.int j), k1])
  | [], pre, fs, k0, h, hl => ⟨k0, by simp [upFrom_zero, forGo]⟩
  | v :: post, pre, fs, k0, h, hl => by
    obtain ⟨k1, ih⟩ := loop3 hp hq post (pre ++ [v]) (fs ++ [[p, q, v]]) (some (.int pre.length)) (by rw [h]; simp) (by simp at hl ⊢; omega)
    refine ⟨k1, ?_⟩
    have hv := at_pre h
    have hlf : fs.length < 16777216 := by simp at hl; omega
    rw [List.length_cons, upFrom_succ]
    unfold forGo
    simp only [List.length_append, List.length_singleton, Int.natCast_add, Int.natCast_one] at ih
    simp [hp, hq, hv, hlf, eT, eI] at ih ⊢
    exact ih
theorem loop2 {ps : List Int} {i : Nat} {p : Int} (hp : atI (eI ps) (i : Int) = some (.int p)) (hps : ps.length ≤ 1000) : ∀ (post pre : List Int) (fs : List (List Int)) (j0 k0 : Option PyData), ps = pre ++ post → fs.length + (rows2 p post).length ≤ 10000 →
    ∃ j1 k1, forGo (tgN 3) (seqS (appS 1 (tupF (consA (f2 dIx (vF 0) (vF 2)) (consA (f2 dIx (vF 0) (vF 3)) nilA)))) (forS (fL dRange (exN 2 (consA (f2 dAdd (vF 3) (cF (.int 1))) (consA (fL dLen (consA (vF 0) nilA)) nilA)))) (tgN 4) (appS 1 (tupF (consA (f2 dIx (vF 0) (vF 2)) (consA (f2 dIx (vF 0) (vF 3)) (consA (f2 dIx (vF 0) (vF 4)) nilA)))))))
      (upFrom pre.length post.length) [some (.list (eI ps)), some (.list (fs.map eT)), some (.int i), j0, k0] =
      some (.nx [some (.list (eI ps)), some (.list ((fs ++ rows2 p post).map eT)), some (.int i), j1, k1])
  | [], pre, fs, j0, k0, h, hl => ⟨j0, k0, by simp [upFrom_zero, forGo, rows2]⟩
  | q :: post, pre, fs, j0, k0, h, hl => by
    have hlen : (eI ps).length = pre.length + (post.length + 1) := by rw [h]; simp [eI]
    have hlp : ps.length = pre.length + (post.length + 1) := by rw [h]; simp
    simp only [rows2, List.length_cons, List.length_append, List.length_map] at hl
    have hq := at_pre h
    obtain ⟨k1, h3⟩ := loop3 (j := pre.length) hp hq post (pre ++ [q]) (fs ++ [[p, q]]) k0 (by rw [h]; simp) (by simp; omega)
    obtain ⟨j1, k2, ih⟩ := loop2 hp hps post (pre ++ [q]) (fs ++ [[p, q]] ++ post.map fun k => [p, q, k]) (some (.int pre.length)) k1 (by rw [h]; simp) (by simp; omega)
    refine ⟨j1, k2, ?_⟩
    have hlf : fs.length < 16777216 := by omega
    have hr : dRange [.int ((pre.length : Int) + 1), .int ((ps.length : Nat) : Int)] = some (upFrom ((pre.length : Int) + 1) post.length) := by
      rw [e_range2, if_pos (by omega)]
      rw [show ((ps.length : Int) - ((pre.length : Int) + 1)).toNat = post.length by omega]
    rw [List.length_cons, upFrom_succ]
    unfold forGo
    simp only [List.length_append, List.length_singleton, Int.natCast_add, Int.natCast_one] at ih h3
    simp [hp, hq, hlf, eT, eI] at h3 ih hr ⊢
    simp [hr, h3, ih, rows2]
theorem loop1 {ps : List Int} (hps : ps.length ≤ 1000) : ∀ (post pre : List Int) (fs : List (List Int)) (i0 j0 k0 : Option PyData), ps = pre ++ post → fs.length + (rowsP post).length ≤ 10000 →
    ∃ i1 j1 k1, forGo (tgN 2) (seqS (appS 1 (tupF (consA (f2 dIx (vF 0) (vF 2)) nilA))) (forS (fL dRange (exN 2 (consA (f2 dAdd (vF 2) (cF (.int 1))) (consA (fL dLen (consA (vF 0) nilA)) nilA)))) (tgN 3) (seqS (appS 1 (tupF (consA (f2 dIx (vF 0) (vF 2)) (consA (f2 dIx (vF 0) (vF 3)) nilA)))) (forS (fL dRange (exN 2 (consA (f2 dAdd (vF 3) (cF (.int 1))) (consA (fL dLen (consA (vF 0) nilA)) nilA)))) (tgN 4) (appS 1 (tupF (consA (f2 dIx (vF 0) (vF 2)) (consA (f2 dIx (vF 0) (vF 3)) (consA (f2 dIx (vF 0) (vF 4)) nilA)))))))))
      (upFrom pre.length post.length) [some (.list (eI ps)), some (.list (fs.map eT)), i0, j0, k0] =
      some (.nx [some (.list (eI ps)), some (.list ((fs ++ rowsP post).map eT)), i1, j1, k1])
  | [], pre, fs, i0, j0, k0, h, hl => ⟨i0, j0, k0, by simp [upFrom_zero, forGo, rowsP]⟩
  | p :: post, pre, fs, i0, j0, k0, h, hl => by
    have hlen : (eI ps).length = pre.length + (post.length + 1) := by rw [h]; simp [eI]
    have hlp : ps.length = pre.length + (post.length + 1) := by rw [h]; simp
    simp only [rowsP, List.length_cons, List.length_append] at hl
    have hp := at_pre h
    obtain ⟨j1, k1, h3⟩ := loop2 (i := pre.length) hp hps post (pre ++ [p]) (fs ++ [[p]]) j0 k0 (by rw [h]; simp) (by simp; omega)
    obtain ⟨i1, j2, k2, ih⟩ := loop1 hps post (pre ++ [p]) (fs ++ [[p]] ++ rows2 p post) (some (.int pre.length)) j1 k1 (by rw [h]; simp) (by simp; omega)
    refine ⟨i1, j2, k2, ?_⟩
    have hlf : fs.length < 16777216 := by omega
    have hr : dRange [.int ((pre.length : Int) + 1), .int ((ps.length : Nat) : Int)] = some (upFrom ((pre.length : Int) + 1) post.length) := by
      rw [e_range2, if_pos (by omega)]
      rw [show ((ps.length : Int) - ((pre.length : Int) + 1)).toNat = post.length by omega]
    rw [List.length_cons, upFrom_succ]
    unfold forGo
    simp only [List.length_append, List.length_singleton, Int.natCast_add, Int.natCast_one] at ih h3
    simp [hp, hlf, eT, eI] at h3 ih hr ⊢
    simp [hr, h3, ih, rowsP]
theorem rows_of_eq {ps : List Int} (hps : ps.length ≤ 1000) (hl : (rowsP ps).length ≤ 10000) : S_rows_of [.list (eI ps)] = some (.list ((rowsP ps).map eT)) := by
  obtain ⟨i1, j1, k1, h⟩ := loop1 hps ps [] [] none none none rfl (by simpa using hl)
  unfold S_rows_of B_rows_of
  simp only [List.nil_append, List.map_nil, List.length_nil] at h
  have hr : dRange [.int ((ps.length : Nat) : Int)] = some (upFrom 0 ps.length) := by
    rw [e_range1, if_pos (by omega)]
    rfl
  have h' : forGo (tgN 2) _ (upFrom 0 ps.length) _ = _ := h
  simp [eT, eI] at h' hr ⊢
  simp [hr, h']
/-! ### the law's own going through all choices -/
def chosen : List Int → Nat → List Int
  | [], _ => []
  | p :: r, n => if n % 2 = 1 then p :: chosen r (n / 2) else chosen r (n / 2)
def rowsL (ps : List Int) : List (List Int) := (((List.range (2 ^ ps.length)).drop 1).map (chosen ps)).filter (·.length < 4)
theorem loopC : ∀ (ps fs : List Int) (n : Nat) (v0 : PyData) (l0 : Option PyData), fs.length + ps.length ≤ 10000 → ∃ n1 l1, forGo (tgN 3) (seqS (ifS (asB (f2 dEq (f2 dMod (vF 1) (cF (.int 2))) (cF (.int 1)))) (appS 2 (vF 3)) nopS) (setS 1 (f2 dDiv (vF 1) (cF (.int 2))))) (eI ps) [some v0, some (.int n), some (.list (eI fs)), l0] =
    some (.nx [some v0, some (.int n1), some (.list (eI (fs ++ chosen ps n))), l1])
  | [], fs, n, v0, l0, _ => ⟨n, l0, by simp [forGo, chosen]⟩
  | p :: ps, fs, n, v0, l0, hl => by
    have hlf : fs.length < 16777216 := by simp at hl; omega
    by_cases h : n % 2 = 1
    · obtain ⟨n1, l1, ih⟩ := loopC ps (fs ++ [p]) (n / 2) v0 (some (.int p)) (by simp at hl ⊢; omega)
      have h' : (n : Int) % 2 = 1 := by omega
      refine ⟨n1, l1, ?_⟩
      simp [forGo, eI, h', h, chosen, hlf] at ih ⊢
      exact ih
    · obtain ⟨n1, l1, ih⟩ := loopC ps fs (n / 2) v0 (some (.int p)) (by simp at hl ⊢; omega)
      have h' : ¬ (n : Int) % 2 = 1 := by omega
      refine ⟨n1, l1, ?_⟩
      simp [forGo, eI, h', h, chosen] at ih ⊢
      exact ih
theorem chosen_eq {ps : List Int} {n : Nat} (hl : ps.length ≤ 1000) : S__law_chosen [.list (eI ps), .int n] = some (eT (chosen ps n)) := by
  obtain ⟨n1, l1, h⟩ := loopC ps [] n (.list (eI ps)) none (by simp; omega)
  unfold S__law_chosen B__law_chosen
  simp [eI] at h ⊢
  simp [h]
theorem mul2 (m : Int) : dMul (.int m) (.int 2) = some (.int (m * 2)) := by
  have h : -(2 ^ 64) < (2 : Int) ∧ (2 : Int) < 2 ^ 64 := by decide
  rw [e_dMul, if_pos (.inr h)]
theorem loopM (ps : List Int) (v0 v1 : PyData) (m : Int) (l0 v4 v5 : Option PyData) : ∃ l1, forGo (tgN 3) (setS 2 (f2 dMul (vF 2) (cF (.int 2)))) (eI ps) [some v0, some v1, some (.int m), l0, v4, v5] = some (.nx [some v0, some v1, some (.int (m * 2 ^ ps.length)), l1, v4, v5]) := by
  induction ps generalizing m l0 with
  | nil => exact ⟨l0, by rw [List.length_nil, Int.pow_zero, Int.mul_one]; rfl⟩
  | cons p ps ih =>
    obtain ⟨l1, ih⟩ := ih (m * 2) (some (.int p))
    refine ⟨l1, ?_⟩
    have e : m * 2 ^ (p :: ps).length = m * 2 * 2 ^ ps.length := by rw [List.length_cons, Int.pow_succ, Int.mul_assoc, Int.mul_comm 2]
    rw [e, ← ih]
    have e3 : (setS 2 (f2 dMul (vF 2) (cF (.int 2)))) [some v0, some v1, some (.int m), some (.int p), v4, v5] = some (.nx [some v0, some v1, some (.int (m * 2)), some (.int p), v4, v5]) := by
      simp only [e_setS, e_f2, e_cF, e_vF, List.getElem?_cons_succ, List.getElem?_cons_zero, Option.join_some, Option.bind_some, mul2, Option.map_some, List.set_cons_succ, List.set_cons_zero]
    unfold eI
    rw [List.map_cons, forGo]
    simp only [e_tgN, List.set_cons_succ, List.set_cons_zero, Option.bind_some, e3]
theorem loopR {ps : List Int} (hps : ps.length ≤ 1000) {v2 v3 : Option PyData} : ∀ (c : Nat) (m : Nat) (fs : List (List Int)) (l0 r0 : Option PyData), fs.length + c ≤ 10000 → ∃ l1 r1, forGo (tgN 4) (seqS (setS 5 (fL S__law_chosen (consA (vF 0) (consA (vF 4) nilA)))) (ifS (asB (f2 dLt (fL dLen (consA (vF 5) nilA)) (cF (.int 4)))) (appS 1 (vF 5)) nopS)) (upFrom m c) [some (.list (eI ps)), some (.list (fs.map eT)), v2, v3, l0, r0] =
    some (.nx [some (.list (eI ps)), some (.list ((fs ++ ((List.range' m c).map (chosen ps)).filter (·.length < 4)).map eT)), v2, v3, l1, r1])
  | 0, m, fs, l0, r0, _ => ⟨l0, r0, by simp [forGo, upFrom_zero]⟩
  | c + 1, m, fs, l0, r0, hl => by
    have hlf : fs.length < 16777216 := by omega
    have hc := chosen_eq (n := m) hps
    have e1 : ((m : Int) + 1) = ((m + 1 : Nat) : Int) := by omega
    rw [upFrom_succ, e1]
    unfold forGo
    by_cases h : (chosen ps m).length < 4
    · obtain ⟨l1, r1, ih⟩ := loopR (v2 := v2) (v3 := v3) hps c (m + 1) (fs ++ [chosen ps m]) (some (.int m)) (some (eT (chosen ps m))) (by simp; omega)
      have h' : ((chosen ps m).length : Int) < 4 := by omega
      refine ⟨l1, r1, ?_⟩
      simp [eI, eT, List.range'_succ, h] at ih hc ⊢
      simp [hc, h', h, hlf, ih]
    · obtain ⟨l1, r1, ih⟩ := loopR (v2 := v2) (v3 := v3) hps c (m + 1) fs (some (.int m)) (some (eT (chosen ps m))) (by omega)
      have h' : ¬ ((chosen ps m).length : Int) < 4 := by omega
      refine ⟨l1, r1, ?_⟩
      simp [eI, eT, List.range'_succ, h] at ih hc ⊢
      simp [hc, h', h, ih]
theorem lrows_of_eq {ps : List Int} (hps : ps.length ≤ 13) : S__law_rows_of [.list (eI ps)] = some (.list ((rowsL ps).map eT)) := by
  have hpow : 1 ≤ 2 ^ ps.length ∧ 2 ^ ps.length ≤ 8192 := ⟨Nat.one_le_two_pow, Nat.pow_le_pow_right (by omega) hps⟩
  obtain ⟨l1, h1⟩ := loopM ps (.list (eI ps)) (.list []) 1 none none none
  rw [Int.one_mul, show ((2 : Int) ^ ps.length) = ((2 ^ ps.length : Nat) : Int) by simp] at h1
  obtain ⟨l2, r2, h2⟩ := loopR (v2 := some (.int ((2 ^ ps.length : Nat) : Int))) (v3 := l1) (by omega : ps.length ≤ 1000) (2 ^ ps.length - 1) 1 [] none none (by simp; omega)
  have hr : dRange [.int 1, .int ((2 ^ ps.length : Nat) : Int)] = some (upFrom ((1 : Nat) : Int) (2 ^ ps.length - 1)) := by
    have e : (((2 ^ ps.length : Nat) : Int) - 1).toNat = 2 ^ ps.length - 1 := by omega
    rw [e_range2, if_pos (by omega)]
    first | done | (rw [e]; rfl) | rw [e]
  have hd : (List.range (2 ^ ps.length)).drop 1 = List.range' 1 (2 ^ ps.length - 1) := by
    rw [List.range_eq_range', List.drop_range']
    first | done | simp
  unfold S__law_rows_of B__law_rows_of rowsL
  rw [hd]
  generalize 2 ^ ps.length = m at *
  simp only [List.nil_append, List.map_nil] at h2
  have hr' : dRange [PyData.int 1, .int (m : Int)] = some (upFrom ((1 : Nat) : Int) (m - 1)) := hr
  have h1' : forGo (tgN 3) (setS 2 (f2 dMul (vF 2) (cF (.int 2)))) (eI ps) [some (.list (eI ps)), some (.list []), some (.int 1), none, none, none] = _ := h1
  simp only [e_runF, e_env0, List.length_cons, List.length_nil, Nat.zero_add, if_true, List.map_cons, List.map_nil, List.cons_append, List.nil_append, List.replicate, Nat.reduceSub, e_seqS, e_setO, e_few, e_nilA, Option.bind_some, Nat.zero_le, Option.map_some, List.set_cons_succ, List.set_cons_zero, e_setS, e_cF, e_forS, e_seqA, e_vF, List.getElem?_cons_succ, List.getElem?_cons_zero, Option.join_some, h1', e_fL, e_exN, e_consA, Nat.reduceAdd, hr', h2, e_retS]
/-! ### both give the same rows -/
def rN2 (p : Nat) : List Nat → List (List Nat)
  | [] => []
  | q :: r => [p, q] :: (r.map (fun k => [p, q, k]) ++ rN2 p r)
def rNP : List Nat → List (List Nat)
  | [] => []
  | p :: r => [p] :: (rN2 p r ++ rNP r)
def chN : List Nat → Nat → List Nat
  | [], _ => []
  | p :: r, n => if n % 2 = 1 then p :: chN r (n / 2) else chN r (n / 2)
def rNL (ps : List Nat) : List (List Nat) := (((List.range (2 ^ ps.length)).drop 1).map (chN ps)).filter (·.length < 4)
theorem rows2_map (f : Nat → Int) (p : Nat) : ∀ r : List Nat, rows2 (f p) (r.map f) = (rN2 p r).map (·.map f)
  | [] => rfl
  | q :: r => by simp [rows2, rN2, rows2_map f p r, Function.comp_def]
theorem rowsP_map (f : Nat → Int) : ∀ r : List Nat, rowsP (r.map f) = (rNP r).map (·.map f)
  | [] => rfl
  | q :: r => by simp [rowsP, rNP, rows2_map, rowsP_map f r]
theorem chosen_map (f : Nat → Int) : ∀ (r : List Nat) (n : Nat), chosen (r.map f) n = (chN r n).map f
  | [], _ => rfl
  | q :: r, n => by
    simp only [List.map_cons, chosen, chN]
    split <;> simp [chosen_map f r]
theorem rowsL_map (f : Nat → Int) (r : List Nat) : rowsL (r.map f) = (rNL r).map (·.map f) := by
  unfold rowsL rNL
  have e : (chosen (r.map f)) = (fun x => (chN r x).map f) := funext fun n => chosen_map f r n
  rw [List.length_map, e, show ((List.range (2 ^ r.length)).drop 1).map (fun x => (chN r x).map f) = (((List.range (2 ^ r.length)).drop 1).map (chN r)).map (·.map f) by rw [List.map_map]; rfl, List.filter_map]
  congr 2
  funext x
  simp
theorem ps_ix (ps : List Int) : (List.range ps.length).map (fun i => ps.getD i 0) = ps := by
  apply List.ext_getElem
  · simp
  · intro i h1 h2
    simp [List.getD_eq_getElem?_getD, h2]
theorem rows_perm {ps : List Int} (h : ps.length ≤ 5) : (rowsP ps).Perm (rowsL ps) := by
  have key : ∀ n, n ≤ 5 → (rNP (List.range n)).Perm (rNL (List.range n)) := by
    intro n hn
    match n, hn with
    | 0, _ => decide
    | 1, _ => decide
    | 2, _ => decide
    | 3, _ => decide
    | 4, _ => decide
    | 5, _ => decide +kernel
  have e := ps_ix ps
  rw [← e, rowsP_map, rowsL_map]
  exact (key _ h).map _
end Dat
open PySem PySem.Spec PyProof.Rows L2
namespace Dat
/-! ### loops, by what holds -/
theorem for_ex {tgt : Tgt} {B : Bs} {α : Type} (enc : α → PyData) (Inv : List α → Dv → Prop) : ∀ (post pre : List α) (ρ : Dv), Inv pre ρ → (∀ pre' x post' ρ, pre ++ post = pre' ++ x :: post' → Inv pre' ρ → ∃ ρ', (tgt (enc x) ρ).bind B = some (.nx ρ') ∧ Inv (pre' ++ [x]) ρ') →
    ∃ ρ', forGo tgt B (post.map enc) ρ = some (.nx ρ') ∧ Inv (pre ++ post) ρ'
  | [], pre, ρ, h, _ => ⟨ρ, rfl, by rw [List.append_nil]; exact h⟩
  | x :: post, pre, ρ, h, st => by
    obtain ⟨ρ1, h1, h2⟩ := st pre x post ρ rfl h
    obtain ⟨ρ2, h3, h4⟩ := for_ex enc Inv post (pre ++ [x]) ρ1 h2 fun pre' y post' ρ' e i => st pre' y post' ρ' (by rw [← e]; simp) i
    refine ⟨ρ2, ?_, by rw [show pre ++ x :: post = pre ++ [x] ++ post by simp]; exact h4⟩
    rw [List.map_cons]
    unfold forGo
    cases q : tgt (enc x) ρ with
    | none => rw [q] at h1; simp at h1
    | some ρ' =>
      rw [q, Option.bind_some] at h1
      simp [h1, h3]
/-! ### places of a side -/
def plc (s : Bool) (g : List Mark) : List Int := ((g.filter fun m => m.1 == s).map fun m => (m.2 : Int)).mergeSort (leOf ltII)
theorem plc_mem {s : Bool} {g : List Mark} {p : Int} : p ∈ plc s g ↔ ∃ m, m ∈ g ∧ m.1 = s ∧ (m.2 : Int) = p := by
  unfold plc
  rw [(List.mergeSort_perm _ _).mem_iff]
  simp only [List.mem_map, List.mem_filter, beq_iff_eq, and_assoc]
theorem plc_strict {s : Bool} {g : List Mark} (h : g.Nodup) : (plc s g).Pairwise (· < ·) := by
  refine sorted_strictI ?_
  have h1 : (g.filter fun m => m.1 == s).Nodup := h.filter _
  refine (List.pairwise_map.mpr (h1.imp_of_mem fun {a b} ha hb hne => ?_))
  have e1 : a.1 = s := by simpa using (List.mem_filter.mp ha).2
  have e2 : b.1 = s := by simpa using (List.mem_filter.mp hb).2
  intro z
  apply hne
  obtain ⟨a1, a2⟩ := a
  obtain ⟨b1, b2⟩ := b
  simp only at e1 e2 z
  subst e1 e2
  congr 1
  omega
theorem strict_len : ∀ {ps : List Int} {lo hi : Int}, ps.Pairwise (· < ·) → (∀ p, p ∈ ps → lo ≤ p ∧ p < hi) → lo ≤ hi → (ps.length : Int) ≤ hi - lo
  | [], lo, hi, _, _, h => by simp; omega
  | p :: r, lo, hi, h, m, _ => by
    have hp := m p (by simp)
    have h1 := List.pairwise_cons.mp h
    have ih := strict_len (lo := p + 1) (hi := hi) h1.2 (fun q hq => ⟨by have := h1.1 q hq; omega, (m q (by simp [hq])).2⟩) (by omega)
    simp only [List.length_cons]
    omega
/-! ### rows keep their shape -/
theorem rows2_mem {p : Int} {n : Int} : ∀ {r : List Int}, (p :: r).Pairwise (· < ·) → (∀ q, q ∈ p :: r → 0 ≤ q ∧ q < n) → ∀ x, x ∈ rows2 p r → shp x n = true
  | [], _, _, x, hx => by simp [rows2] at hx
  | q :: r, h, m, x, hx => by
    have hp := m p (by simp)
    have hq := m q (by simp)
    have h1 := List.pairwise_cons.mp h
    have hpq := h1.1 q (by simp)
    have h2 := List.pairwise_cons.mp h1.2
    simp only [rows2, List.mem_cons, List.mem_append, List.mem_map] at hx
    rcases hx with rfl | ⟨k, hk, rfl⟩ | hx
    · simp [shp]; omega
    · have hk1 := h2.1 k hk
      have hk2 := m k (by simp [hk])
      simp [shp]; omega
    · exact rows2_mem (List.pairwise_cons.mpr ⟨fun z hz => h1.1 z (by simp [hz]), h2.2⟩) (fun z hz => m z (by rcases List.mem_cons.mp hz with rfl | hz <;> simp [*])) x hx
theorem rowsP_mem {n : Int} : ∀ {ps : List Int}, ps.Pairwise (· < ·) → (∀ q, q ∈ ps → 0 ≤ q ∧ q < n) → ∀ x, x ∈ rowsP ps → shp x n = true
  | [], _, _, x, hx => by simp [rowsP] at hx
  | p :: r, h, m, x, hx => by
    have hp := m p (by simp)
    simp only [rowsP, List.mem_cons, List.mem_append] at hx
    rcases hx with rfl | hx | hx
    · simp [shp]; omega
    · exact rows2_mem h m x hx
    · exact rowsP_mem (List.pairwise_cons.mp h).2 (fun z hz => m z (by simp [hz])) x hx
theorem rowsP_len {ps : List Int} (h : ps.length ≤ 5) : (rowsP ps).length ≤ 25 := by
  have key : ∀ n, n ≤ 5 → (rNP (List.range n)).length ≤ 25 := by
    intro n hn
    match n, hn with
    | 0, _ => decide
    | 1, _ => decide
    | 2, _ => decide
    | 3, _ => decide
    | 4, _ => decide
    | 5, _ => decide
  rw [← ps_ix ps, rowsP_map, List.length_map]
  exact key _ h
/-! ### what fits -/
def foundOf (P : List Int → List Int → Bool) (ones others : List (List Int)) : List Mt := ones.flatMap fun a => (others.filter (P a)).map fun b => (a, b)
theorem foundOf_len (P : List Int → List Int → Bool) (others : List (List Int)) : ∀ ones : List (List Int), (foundOf P ones others).length ≤ ones.length * others.length
  | [] => by simp [foundOf]
  | a :: ones => by
    have ih := foundOf_len P others ones
    have h : (others.filter (P a)).length ≤ others.length := List.length_filter_le ..
    unfold foundOf at ih ⊢
    rw [List.flatMap_cons, List.length_append, List.length_map, List.length_cons, Nat.succ_mul]
    omega
theorem foundOf_right (P : List Int → List Int → Bool) {others others' : List (List Int)} (h2 : others.Perm others') : ∀ ones : List (List Int), (foundOf P ones others).Perm (foundOf P ones others')
  | [] => .refl _
  | a :: ones => by
    have ih := foundOf_right P h2 ones
    unfold foundOf at ih ⊢
    rw [List.flatMap_cons, List.flatMap_cons]
    exact ((h2.filter _).map _).append ih
theorem foundOf_perm (P : List Int → List Int → Bool) {ones ones' others others' : List (List Int)} (h1 : ones.Perm ones') (h2 : others.Perm others') : (foundOf P ones others).Perm (foundOf P ones' others') := by
  refine List.Perm.trans ?_ (foundOf_right P h2 ones')
  unfold foundOf
  exact h1.flatMap_right _
theorem foundOf_snoc (P : List Int → List Int → Bool) (ones others : List (List Int)) (a : List Int) : foundOf P (ones ++ [a]) others = foundOf P ones others ++ (others.filter (P a)).map fun b => (a, b) := by
  unfold foundOf
  simp
/-- all matches that fit within a group -/
def withinM (banks books : List Entry) (span : Int) (g : List Mark) : List Mt := (foundOf (fitsB banks books span) (rowsP (plc false g)) (rowsP (plc true g))).mergeSort (leOf mtLt)
theorem fits_few {banks books : List Entry} {span : Int} {a b : List Int} (h1 : 1 < a.length) (h2 : 1 < b.length) : fitsB banks books span a b = false := by
  unfold fitsB
  simp [h1, h2]
theorem lc_marks (s : Bool) (t : Str) (ht : t = sideS s) (g : List Mark) {i : Nat} {ρ : Dv} (hi : i < ρ.length) :
    lcGo (tgN i) (asB (f2 dEq (f2 dIx (vF i) (cF (.int 0))) (cF (.str t)))) (f2 dIx (vF i) (cF (.int 1))) ρ (g.map eMark) = some (eI ((g.filter fun m => m.1 == s).map fun m => (m.2 : Int))) := by
  subst ht
  rw [lc_filter eMark (fun m => PyData.int (m.2 : Int)) (fun m => m.1 == s) g fun m hm => ⟨ρ.set i (some (eMark m)), rfl, ?_, fun _ => ?_⟩]
  · simp [eI]
  · simp [hi]
    simp [eMark, side_inj]
    cases m.1 <;> cases s <;> rfl
  · simp [hi]
    simp [eMark]
theorem sort_marks (s : Bool) (g : List Mark) : dSorted [.list (eI ((g.filter fun m => m.1 == s).map fun m => (m.2 : Int)))] = some (eI (plc s g)) := sort_intsE _
def BW1 : Bs := (ifS (andT (asB (f2 dEq (fL dMin (consA (fL dLen (consA (vF 8) nilA)) (consA (fL dLen (consA (vF 9) nilA)) nilA))) (cF (.int 1)))) (asB (fL S_fits (consA (vF 0) (consA (vF 1) (consA (vF 2) (consA (tupF (consA (vF 8) (consA (vF 9) nilA))) nilA))))))) (appS 7 (tupF (consA (vF 8) (consA (vF 9) nilA)))) nopS)
def BW2 : Bs := forS (seqA (vF 6)) (tgN 9) BW1
section
variable {banks books : List Entry} {span : Int}
theorem min_len {a b : List Int} (h1 : 1 ≤ a.length) (h2 : 1 ≤ b.length) : dMin [.int a.length, .int b.length] = some (.int (if a.length = 1 ∨ b.length = 1 then 1 else 2)) ∨ (1 < a.length ∧ 1 < b.length) := by
  by_cases h : 1 < a.length ∧ 1 < b.length
  · exact .inr h
  · left
    have e : dMin [.int (a.length : Int), .int (b.length : Int)] = some (.int (if (b.length : Int) < a.length then b.length else a.length)) := rfl
    rw [e]
    congr 2
    split <;> split <;> omega
theorem loopW1 (v3 v4 v5 v6 : Option PyData) {a : List Int} (ha : 1 ≤ a.length ∧ a.length ≤ 3) (others : List (List Int)) (ho : ∀ b, b ∈ others → 1 ≤ b.length ∧ b.length ≤ 3) (fs : List Mt) (hl : fs.length + others.length ≤ 10000) (v9 : Option PyData) :
    ∃ w9, forGo (tgN 9) BW1
      (others.map eT) [some (.list (banks.map eEntry)), some (.list (books.map eEntry)), some (.int span), v3, v4, v5, v6, some (.list (fs.map eMt)), some (eT a), v9] =
      some (.nx [some (.list (banks.map eEntry)), some (.list (books.map eEntry)), some (.int span), v3, v4, v5, v6, some (.list ((fs ++ (others.filter (fitsB banks books span a)).map fun b => (a, b)).map eMt)), some (eT a), w9]) := by
  have go := for_ex (tgt := tgN 9) (B := BW1) eT (fun pre ρ => ∃ w9, ρ = [some (.list (banks.map eEntry)), some (.list (books.map eEntry)), some (.int span), v3, v4, v5, v6, some (.list ((fs ++ (pre.filter (fitsB banks books span a)).map fun b => (a, b)).map eMt)), some (eT a), w9]) others [] _ ⟨v9, rfl⟩ (fun pre b post ρ e ⟨w9, hρ⟩ => ?_)
  · obtain ⟨ρ', h1, w9, h2⟩ := go
    refine ⟨w9, ?_⟩
    rw [List.nil_append] at h2
    rw [← h2, ← h1]
    simp
  · rw [List.nil_append] at e
    subst hρ
    have hb := ho b (by rw [e]; simp)
    have hlb : (pre.filter (fitsB banks books span a)).length ≤ pre.length := List.length_filter_le ..
    have hlf : fs.length + (pre.filter (fitsB banks books span a)).length < 16777216 := by
      have : others.length = pre.length + (post.length + 1) := by rw [e]; simp
      omega
    have hf := fits_eq (banks := banks) (books := books) (span := span) (ones := a) (others := b) (by omega) (by omega)
    refine ⟨_, ?_, some (eT b), rfl⟩
    unfold BW1
    rcases min_len (a := a) (b := b) ha.1 hb.1 with hm | hm
    · by_cases h11 : a.length = 1 ∨ b.length = 1
      · rw [if_pos h11] at hm
        cases hfb : fitsB banks books span a b with
        | true =>
          rw [hfb] at hf
          simp [eP, eT, eI] at hf ⊢
          simp [hm, hf, hlf, hfb, eMt, eP, eI]
        | false =>
          rw [hfb] at hf
          simp [eP, eT, eI] at hf ⊢
          simp [hm, hf, hfb]
      · rw [if_neg h11] at hm
        have hfb := fits_few (banks := banks) (books := books) (span := span) (a := a) (b := b) (by omega) (by omega)
        simp [eT, eI]
        simp [hm, hfb]
    · have hfb := fits_few (banks := banks) (books := books) (span := span) hm.1 hm.2
      obtain ⟨z, hm2, hne⟩ : ∃ z : Int, dMin [.int (a.length : Int), .int (b.length : Int)] = some (.int z) ∧ z ≠ 1 := ⟨_, rfl, by split <;> omega⟩
      simp [eT, eI]
      simp [hm2, hne, hfb]
theorem loopW2 (v3 v4 v5 v6 : Option PyData) (others : List (List Int)) (ho : ∀ b, b ∈ others → 1 ≤ b.length ∧ b.length ≤ 3) (hv6 : v6 = some (.list (others.map eT))) (ones : List (List Int)) (ho1 : ∀ b, b ∈ ones → 1 ≤ b.length ∧ b.length ≤ 3) (hl : ones.length ≤ 60 ∧ others.length ≤ 60) (v8 v9 : Option PyData) :
    ∃ w8 w9, forGo (tgN 8) BW2
      (ones.map eT) [some (.list (banks.map eEntry)), some (.list (books.map eEntry)), some (.int span), v3, v4, v5, v6, some (.list []), v8, v9] =
      some (.nx [some (.list (banks.map eEntry)), some (.list (books.map eEntry)), some (.int span), v3, v4, v5, v6, some (.list ((foundOf (fitsB banks books span) ones others).map eMt)), w8, w9]) := by
  have go := for_ex (tgt := tgN 8) (B := BW2) eT (fun pre ρ => ∃ w8 w9, ρ = [some (.list (banks.map eEntry)), some (.list (books.map eEntry)), some (.int span), v3, v4, v5, v6, some (.list ((foundOf (fitsB banks books span) pre others).map eMt)), w8, w9]) ones [] _ ⟨v8, v9, rfl⟩ (fun pre a post ρ e ⟨w8, w9, hρ⟩ => ?_)
  · obtain ⟨ρ', h1, w8, w9, h2⟩ := go
    refine ⟨w8, w9, ?_⟩
    rw [List.nil_append] at h2
    rw [← h2, ← h1]
    rfl
  · rw [List.nil_append] at e
    subst hρ
    have ha := ho1 a (by rw [e]; simp)
    have hlp : pre.length ≤ 60 := by
      have : ones.length = pre.length + (post.length + 1) := by rw [e]; simp
      omega
    have hfl := foundOf_len (fitsB banks books span) others pre
    have hmul : pre.length * others.length ≤ 60 * 60 := Nat.mul_le_mul hlp hl.2
    obtain ⟨u9, h⟩ := loopW1 (banks := banks) (books := books) (span := span) v3 v4 v5 v6 ha others ho (foundOf (fitsB banks books span) pre others) (by omega) w9
    refine ⟨_, ?_, some (eT a), u9, rfl⟩
    subst hv6
    unfold BW2
    simp only [e_tgN, Option.bind_some, List.set_cons_succ, List.set_cons_zero, e_forS, e_seqA, e_vF, List.getElem?_cons_succ, List.getElem?_cons_zero, Option.join_some]
    rw [h, foundOf_snoc]
end
theorem within_eq {banks books : List Entry} {span : Int} {g : List Mark} (hn : g.Nodup) (hv : ∀ m, m ∈ g → m.2 < (if m.1 = true then books else banks).length) (hb : banks.length ≤ 5) (hk : books.length ≤ 5) :
    S_within [.list (banks.map eEntry), .list (books.map eEntry), .int span, .list (g.map eMark)] = some (.list ((withinM banks books span g).map eMt)) := by
  have hp1 := plc_strict (s := false) hn
  have hp2 := plc_strict (s := true) hn
  have hm1 : ∀ p, p ∈ plc false g → 0 ≤ p ∧ p < banks.length := fun p hp => by
    obtain ⟨m, hm, e, rfl⟩ := plc_mem.mp hp
    have := hv m hm
    rw [e] at this
    simp at this
    omega
  have hm2 : ∀ p, p ∈ plc true g → 0 ≤ p ∧ p < books.length := fun p hp => by
    obtain ⟨m, hm, e, rfl⟩ := plc_mem.mp hp
    have := hv m hm
    rw [e] at this
    simp at this
    omega
  have hl1 := strict_len hp1 hm1 (by omega)
  have hl2 := strict_len hp2 hm2 (by omega)
  have hr1 := rowsP_len (ps := plc false g) (by omega)
  have hr2 := rowsP_len (ps := plc true g) (by omega)
  have ho1 : ∀ b, b ∈ rowsP (plc false g) → 1 ≤ b.length ∧ b.length ≤ 3 := fun b hb => by
    obtain ⟨x, y, _⟩ := shp_mem (rowsP_mem hp1 hm1 b hb)
    exact ⟨List.length_pos_iff.mpr x, y⟩
  have ho2 : ∀ b, b ∈ rowsP (plc true g) → 1 ≤ b.length ∧ b.length ≤ 3 := fun b hb => by
    obtain ⟨x, y, _⟩ := shp_mem (rowsP_mem hp2 hm2 b hb)
    exact ⟨List.length_pos_iff.mpr x, y⟩
  have q1 := rows_of_eq (ps := plc false g) (by omega) (by omega)
  have q2 := rows_of_eq (ps := plc true g) (by omega) (by omega)
  obtain ⟨w8, w9, h⟩ := loopW2 (banks := banks) (books := books) (span := span) (some (.list (g.map eMark))) (some (.list ((rowsP (plc false g)).map eT))) none _ (rowsP (plc true g)) ho2 rfl (rowsP (plc false g)) ho1 ⟨by omega, by omega⟩ none none
  unfold BW2 BW1 at h
  unfold S_within B_within
  try unfold T_within_1
  try unfold T_within_2
  simp only [e_runF, e_env0, List.length_cons, List.length_nil, Nat.zero_add, Nat.reduceAdd, if_true, List.map_cons, List.map_nil, List.cons_append, List.nil_append, List.replicate, Nat.reduceSub, e_seqS, e_setS, e_fL, e_consA, e_nilA, e_lstF, e_lcF, e_seqA, e_vF, e_wipeC, e_wipeN, List.getElem?_cons_succ, List.getElem?_cons_zero, Option.join_some, Option.bind_some, List.set_cons_succ, List.set_cons_zero]
  rw [lc_marks false "bank" rfl g (by simp)]
  simp only [Option.map_some, Option.bind_some, sort_marks, q1, List.set_cons_succ, List.set_cons_zero, List.getElem?_cons_succ, List.getElem?_cons_zero, Option.join_some]
  rw [lc_marks true "book" rfl g (by simp)]
  simp only [Option.map_some, Option.bind_some, sort_marks, q2, List.set_cons_succ, List.set_cons_zero, List.getElem?_cons_succ, List.getElem?_cons_zero, Option.join_some, e_setO, e_few, e_nilA, List.length_nil, Nat.zero_le, if_true, e_forS, e_seqA, e_vF, h, e_retS, e_lstF, e_fL, e_consA, sort_mts]
  rfl
end Dat
open PySem PySem.Spec PyProof.Rows L2
namespace Dat
/-! ### the law's own list -/
def BD1 : Bs := (ifS (orT (asB (f2 dEq (fL dLen (consA (vF 8) nilA)) (cF (.int 1)))) (asB (f2 dEq (fL dLen (consA (vF 9) nilA)) (cF (.int 1))))) (seqS (setS 10 (f2 dAdd (lstF (lcF (seqA (vF 8)) [12] (tgN 12) yesT (f2 dIx (f2 dIx (vF 0) (vF 12)) (cF (.int 0))))) (lstF (lcF (seqA (vF 9)) [12] (tgN 12) yesT (f2 dIx (f2 dIx (vF 1) (vF 12)) (cF (.int 0))))))) (seqS (setS 11 (f2 dSub (fL dSum (consA (lstF (lcF (seqA (vF 8)) [12] (tgN 12) yesT (f2 dIx (f2 dIx (vF 0) (vF 12)) (cF (.int 1))))) nilA)) (fL dSum (consA (lstF (lcF (seqA (vF 9)) [12] (tgN 12) yesT (f2 dIx (f2 dIx (vF 1) (vF 12)) (cF (.int 1))))) nilA)))) (ifS (andT (asB (f2 dEq (vF 11) (cF (.int 0)))) (asB (f2 dLe (f2 dSub (fL dMax (consA (vF 10) nilA)) (fL dMin (consA (vF 10) nilA))) (vF 2)))) (appS 7 (tupF (consA (f2 dAdd (fL dLen (consA (vF 8) nilA)) (fL dLen (consA (vF 9) nilA))) (consA (vF 8) (consA (vF 9) nilA))))) nopS))) nopS)
def BD2 : Bs := forS (seqA (vF 6)) (tgN 9) BD1
section
variable {banks books : List Entry} {span : Int}
theorem turnD (v3 v4 v5 v6 : Option PyData) {a b : List Int} (ha : shp a banks.length = true) (hb : shp b books.length = true) (fs : List Mt) (hl : fs.length < 16777216) (w10 w11 : Option PyData) :
    ∃ u10 u11, BD1 [some (.list (banks.map eEntry)), some (.list (books.map eEntry)), some (.int span), v3, v4, v5, v6, some (.list (fs.map eRowM)), some (eT a), some (eT b), w10, w11, none, none] =
      some (.nx [some (.list (banks.map eEntry)), some (.list (books.map eEntry)), some (.int span), v3, v4, v5, v6, some (.list ((if fitsB banks books span a b = true then fs ++ [(a, b)] else fs).map eRowM)), some (eT a), some (eT b), u10, u11, none, none]) := by
  obtain ⟨n1, l1, m1⟩ := shp_mem ha
  obtain ⟨n2, l2, m2⟩ := shp_mem hb
  have hla : (eI a).length = a.length := by simp [eI]
  have hlb : (eI b).length = b.length := by simp [eI]
  by_cases h11 : a.length = 1 ∨ b.length = 1
  · have hd : dysOf banks books a b ≠ [] := by
      unfold dysOf
      intro z
      exact n1 (by simpa using (List.append_eq_nil_iff.mp z).1)
    have a0 : ∀ (ρ : Dv) , 12 < ρ.length → ρ[0]? = some (some (.list (banks.map eEntry))) → lcGo (tgN 12) yesT (f2 dIx (f2 dIx (vF 0) (vF 12)) (cF (.int 0))) ρ (eI a) = some (eI (a.map fun p => (eb banks p).1)) := fun ρ hl h0 => lc_ix2 (fun e => e.1) (fun e => at0) (by decide) hl h0 m1
    have a1 : ∀ (ρ : Dv) , 12 < ρ.length → ρ[0]? = some (some (.list (banks.map eEntry))) → lcGo (tgN 12) yesT (f2 dIx (f2 dIx (vF 0) (vF 12)) (cF (.int 1))) ρ (eI a) = some (eI (a.map fun p => (eb banks p).2)) := fun ρ hl h0 => lc_ix2 (fun e => e.2) (fun e => at1) (by decide) hl h0 m1
    have b0 : ∀ (ρ : Dv) , 12 < ρ.length → ρ[1]? = some (some (.list (books.map eEntry))) → lcGo (tgN 12) yesT (f2 dIx (f2 dIx (vF 1) (vF 12)) (cF (.int 0))) ρ (eI b) = some (eI (b.map fun p => (eb books p).1)) := fun ρ hl h0 => lc_ix2 (fun e => e.1) (fun e => at0) (by decide) hl h0 m2
    have b1 : ∀ (ρ : Dv) , 12 < ρ.length → ρ[1]? = some (some (.list (books.map eEntry))) → lcGo (tgN 12) yesT (f2 dIx (f2 dIx (vF 1) (vF 12)) (cF (.int 1))) ρ (eI b) = some (eI (b.map fun p => (eb books p).2)) := fun ρ hl h0 => lc_ix2 (fun e => e.2) (fun e => at1) (by decide) hl h0 m2
    have hdd : eI (a.map fun p => (eb banks p).1) ++ eI (b.map fun p => (eb books p).1) = eI (dysOf banks books a b) := by unfold eI dysOf; rw [List.map_append]
    have hl2 : (eI (a.map fun p => (eb banks p).1)).length + (eI (b.map fun p => (eb books p).1)).length ≤ 16777216 := by simp [eI]; omega
    have hc : (orT (asB (f2 dEq (fL dLen (consA (vF 8) nilA)) (cF (.int 1)))) (asB (f2 dEq (fL dLen (consA (vF 9) nilA)) (cF (.int 1))))) [some (.list (banks.map eEntry)), some (.list (books.map eEntry)), some (.int span), v3, v4, v5, v6, some (.list (fs.map eRowM)), some (eT a), some (eT b), w10, w11, none, none] = some true := by
      by_cases q1 : a.length = 1
      · have q1' : (a.length : Int) = 1 := by omega
        simp [eT, eI, q1', q1]
      · have q1' : ¬ (a.length : Int) = 1 := by omega
        have q2 : b.length = 1 := by omega
        have q2' : (b.length : Int) = 1 := by omega
        simp [eT, eI, q1', q2', q1, q2]
    have hfew : (decide (1 < a.length) && decide (1 < b.length)) = false := by
      rcases h11 with h | h <;> simp [h]
    unfold BD1
    rw [e_ifS, hc]
    simp only [e_seqS, e_setS, e_f2, e_lstF, e_lcF, e_seqA, e_vF, e_cF, List.getElem?_cons_succ, List.getElem?_cons_zero, Option.join_some, Option.bind_some, Option.map_some, e_wipeC, e_wipeN, eT]
    rw [a0 _ (by simp) rfl, b0 _ (by simp) rfl]
    simp only [Option.bind_some, Option.map_some, e_dAddL, hl2, if_true, hdd, e_fL, e_consA, e_nilA, e_lstF, e_lcF, e_seqA, e_f2, e_vF, e_cF, List.getElem?_cons_succ, List.getElem?_cons_zero, Option.join_some, e_wipeC, e_wipeN, List.set_cons_succ, List.set_cons_zero]
    rw [a1 _ (by simp) rfl, b1 _ (by simp) rfl]
    simp only [Option.bind_some, Option.map_some, sum_ints, e_dSub]
    refine ⟨some (.list (eI (dysOf banks books a b))), some (.int ((a.map fun p => (eb banks p).2).sum - (b.map fun p => (eb books p).2).sum)), ?_⟩
    by_cases c4 : (a.map fun p => (eb banks p).2).sum = (b.map fun p => (eb books p).2).sum
    · have c5 : (a.map fun p => (eb banks p).2).sum - (b.map fun p => (eb books p).2).sum = 0 := by omega
      by_cases c6 : (dysOf banks books a b).max?.getD 0 - (dysOf banks books a b).min?.getD 0 ≤ span
      · have hfb : fitsB banks books span a b = true := by simp [fitsB, ha, hb, hfew, c4, c6]
        rw [if_pos hfb]
        simp [c5, max_ints hd, min_ints hd, c6, hl, eRowM, nMt, eI]
      · have hfb : ¬ fitsB banks books span a b = true := by simp [fitsB, c6]
        rw [if_neg hfb]
        simp [c5, max_ints hd, min_ints hd, c6]
    · have c5 : ¬ ((a.map fun p => (eb banks p).2).sum - (b.map fun p => (eb books p).2).sum = 0) := by omega
      have hfb : ¬ fitsB banks books span a b = true := by simp [fitsB, c4]
      rw [if_neg hfb]
      simp [c5]
  · have q1' : ¬ (a.length : Int) = 1 := by omega
    have q2' : ¬ (b.length : Int) = 1 := by omega
    have n1 := List.length_pos_iff.mpr n1
    have n2 := List.length_pos_iff.mpr n2
    have hfb : ¬ fitsB banks books span a b = true := by rw [fits_few (by omega) (by omega)]; decide
    refine ⟨w10, w11, ?_⟩
    rw [if_neg hfb]
    unfold BD1
    have q1 : ¬ a.length = 1 := fun z => h11 (.inl z)
    have q2 : ¬ b.length = 1 := fun z => h11 (.inr z)
    simp [eT, eI, q1', q2', q1, q2]
theorem loopD1 (v3 v4 v5 v6 : Option PyData) {a : List Int} (ha : shp a banks.length = true) (others : List (List Int)) (ho : ∀ b, b ∈ others → shp b books.length = true) (fs : List Mt) (hl : fs.length + others.length ≤ 10000) (v9 v10 v11 : Option PyData) :
    ∃ w9 w10 w11, forGo (tgN 9) BD1 (others.map eT) [some (.list (banks.map eEntry)), some (.list (books.map eEntry)), some (.int span), v3, v4, v5, v6, some (.list (fs.map eRowM)), some (eT a), v9, v10, v11, none, none] =
      some (.nx [some (.list (banks.map eEntry)), some (.list (books.map eEntry)), some (.int span), v3, v4, v5, v6, some (.list ((fs ++ (others.filter (fitsB banks books span a)).map fun b => (a, b)).map eRowM)), some (eT a), w9, w10, w11, none, none]) := by
  have go := for_ex (tgt := tgN 9) (B := BD1) eT (fun pre ρ => ∃ w9 w10 w11, ρ = [some (.list (banks.map eEntry)), some (.list (books.map eEntry)), some (.int span), v3, v4, v5, v6, some (.list ((fs ++ (pre.filter (fitsB banks books span a)).map fun b => (a, b)).map eRowM)), some (eT a), w9, w10, w11, none, none]) others [] _ ⟨v9, v10, v11, rfl⟩ (fun pre b post ρ e ⟨w9, w10, w11, hρ⟩ => ?_)
  · obtain ⟨ρ', h1, w9, w10, w11, h2⟩ := go
    refine ⟨w9, w10, w11, ?_⟩
    rw [List.nil_append] at h2
    rw [← h2, ← h1]
    simp
  · rw [List.nil_append] at e
    subst hρ
    have hb := ho b (by rw [e]; simp)
    have hlb : (pre.filter (fitsB banks books span a)).length ≤ pre.length := List.length_filter_le ..
    have hlf : (fs ++ (pre.filter (fitsB banks books span a)).map fun b => (a, b)).length < 16777216 := by
      have : others.length = pre.length + (post.length + 1) := by rw [e]; simp
      simp
      omega
    obtain ⟨u10, u11, h⟩ := turnD (banks := banks) (books := books) (span := span) v3 v4 v5 v6 ha hb _ hlf w10 w11
    refine ⟨_, ?_, some (eT b), u10, u11, rfl⟩
    simp only [e_tgN, Option.bind_some, List.set_cons_succ, List.set_cons_zero]
    rw [h]
    cases hfb : fitsB banks books span a b <;> simp [hfb]
theorem loopD2 (v3 v4 v5 v6 : Option PyData) (others : List (List Int)) (ho : ∀ b, b ∈ others → shp b books.length = true) (hv6 : v6 = some (.list (others.map eT))) (ones : List (List Int)) (ho1 : ∀ b, b ∈ ones → shp b banks.length = true) (hl : ones.length ≤ 60 ∧ others.length ≤ 60) (v8 v9 v10 v11 : Option PyData) :
    ∃ w8 w9 w10 w11, forGo (tgN 8) BD2 (ones.map eT) [some (.list (banks.map eEntry)), some (.list (books.map eEntry)), some (.int span), v3, v4, v5, v6, some (.list []), v8, v9, v10, v11, none, none] =
      some (.nx [some (.list (banks.map eEntry)), some (.list (books.map eEntry)), some (.int span), v3, v4, v5, v6, some (.list ((foundOf (fitsB banks books span) ones others).map eRowM)), w8, w9, w10, w11, none, none]) := by
  have go := for_ex (tgt := tgN 8) (B := BD2) eT (fun pre ρ => ∃ w8 w9 w10 w11, ρ = [some (.list (banks.map eEntry)), some (.list (books.map eEntry)), some (.int span), v3, v4, v5, v6, some (.list ((foundOf (fitsB banks books span) pre others).map eRowM)), w8, w9, w10, w11, none, none]) ones [] _ ⟨v8, v9, v10, v11, rfl⟩ (fun pre a post ρ e ⟨w8, w9, w10, w11, hρ⟩ => ?_)
  · obtain ⟨ρ', h1, w8, w9, w10, w11, h2⟩ := go
    refine ⟨w8, w9, w10, w11, ?_⟩
    rw [List.nil_append] at h2
    rw [← h2, ← h1]
    rfl
  · rw [List.nil_append] at e
    subst hρ
    have ha := ho1 a (by rw [e]; simp)
    have hlp : pre.length ≤ 60 := by
      have : ones.length = pre.length + (post.length + 1) := by rw [e]; simp
      omega
    have hfl := foundOf_len (fitsB banks books span) others pre
    have hmul : pre.length * others.length ≤ 60 * 60 := Nat.mul_le_mul hlp hl.2
    obtain ⟨u9, u10, u11, h⟩ := loopD1 (banks := banks) (books := books) (span := span) v3 v4 v5 v6 ha others ho (foundOf (fitsB banks books span) pre others) (by omega) w9 w10 w11
    refine ⟨_, ?_, some (eT a), u9, u10, u11, rfl⟩
    subst hv6
    unfold BD2
    simp only [e_tgN, Option.bind_some, List.set_cons_succ, List.set_cons_zero, e_forS, e_seqA, e_vF, List.getElem?_cons_succ, List.getElem?_cons_zero, Option.join_some]
    rw [h, foundOf_snoc]
end
theorem rowsL_shp {ps : List Int} {n : Int} (h : ps.length ≤ 5) (hp : ps.Pairwise (· < ·)) (m : ∀ q, q ∈ ps → 0 ≤ q ∧ q < n) : ∀ x, x ∈ rowsL ps → shp x n = true := fun x hx => rowsP_mem hp m x ((rows_perm h).mem_iff.mpr hx)
theorem plc_in {banks books : List Entry} {g : List Mark} (hv : ∀ m, m ∈ g → m.2 < (if m.1 = true then books else banks).length) : (∀ p, p ∈ plc false g → 0 ≤ p ∧ p < banks.length) ∧ ∀ p, p ∈ plc true g → 0 ≤ p ∧ p < books.length := by
  refine ⟨fun p hp => ?_, fun p hp => ?_⟩
  · obtain ⟨m, hm, e, rfl⟩ := plc_mem.mp hp
    have := hv m hm
    rw [e] at this
    simp at this
    omega
  · obtain ⟨m, hm, e, rfl⟩ := plc_mem.mp hp
    have := hv m hm
    rw [e] at this
    simp at this
    omega
theorem due_eq {banks books : List Entry} {span : Int} {g : List Mark} (hn : g.Nodup) (hv : ∀ m, m ∈ g → m.2 < (if m.1 = true then books else banks).length) (hb : banks.length ≤ 5) (hk : books.length ≤ 5) :
    S__law_due [.list (banks.map eEntry), .list (books.map eEntry), .int span, .list (g.map eMark)] = some (.list ((withinM banks books span g).map eMt)) := by
  have hp1 := plc_strict (s := false) hn
  have hp2 := plc_strict (s := true) hn
  obtain ⟨hm1, hm2⟩ := plc_in hv
  have hl1 := strict_len hp1 hm1 (by omega)
  have hl2 := strict_len hp2 hm2 (by omega)
  have pr1 := rows_perm (ps := plc false g) (by omega)
  have pr2 := rows_perm (ps := plc true g) (by omega)
  have hr1 := rowsP_len (ps := plc false g) (by omega)
  have hr2 := rowsP_len (ps := plc true g) (by omega)
  rw [pr1.length_eq] at hr1
  rw [pr2.length_eq] at hr2
  have q1 := lrows_of_eq (ps := plc false g) (by omega)
  have q2 := lrows_of_eq (ps := plc true g) (by omega)
  obtain ⟨w8, w9, w10, w11, h⟩ := loopD2 (banks := banks) (books := books) (span := span) (some (.list (g.map eMark))) (some (.list ((rowsL (plc false g)).map eT))) none _ (rowsL (plc true g)) (rowsL_shp (by omega) hp2 hm2) rfl (rowsL (plc false g)) (rowsL_shp (by omega) hp1 hm1) ⟨by omega, by omega⟩ none none none none
  unfold BD2 BD1 at h
  have hs : withinM banks books span g = (foundOf (fitsB banks books span) (rowsL (plc false g)) (rowsL (plc true g))).mergeSort (leOf mtLt) := mtLt_s.sort_eq (foundOf_perm _ pr1 pr2)
  rw [hs]
  unfold S__law_due B__law_due
  simp only [e_runF, e_env0, List.length_cons, List.length_nil, Nat.zero_add, Nat.reduceAdd, if_true, List.map_cons, List.map_nil, List.cons_append, List.nil_append, List.replicate, Nat.reduceSub, e_seqS, e_setS, e_fL, e_consA, e_nilA, e_lstF, e_lcF, e_seqA, e_vF, e_wipeC, e_wipeN, List.getElem?_cons_succ, List.getElem?_cons_zero, Option.join_some, Option.bind_some, List.set_cons_succ, List.set_cons_zero]
  rw [lc_marks false "bank" rfl g (by simp)]
  simp only [Option.map_some, Option.bind_some, sort_marks, q1, List.set_cons_succ, List.set_cons_zero, List.getElem?_cons_succ, List.getElem?_cons_zero, Option.join_some]
  rw [lc_marks true "book" rfl g (by simp)]
  simp only [Option.map_some, Option.bind_some, sort_marks, q2, List.set_cons_succ, List.set_cons_zero, List.getElem?_cons_succ, List.getElem?_cons_zero, Option.join_some, e_setO, e_few, e_nilA, List.length_nil, Nat.zero_le, if_true, e_forS, e_seqA, e_vF, h, e_retS, e_lstF, e_fL, e_consA, sort_rowsM, e_lcF, e_wipeC, e_wipeN]
  rw [lc_map eRowM eMt]
  · rfl
  · intro m hm
    have h1 : atI [PyData.int (nMt m), .tuple (eI m.1), .tuple (eI m.2)] 1 = some (.tuple (eI m.1)) := at1
    have h2 : atI [PyData.int (nMt m), .tuple (eI m.1), .tuple (eI m.2)] 2 = some (.tuple (eI m.2)) := at2
    simp [eRowM, eMt, eP]
end Dat
open PySem PySem.Spec PyProof.Rows L2
namespace Dat
theorem row_comp4 (s : Bool) (t : Str) (ht : t = sideS s) (es : List Entry) {ρ : Dv} (h : ∃ a b c d e f r, ρ = a :: b :: c :: d :: e :: f :: r) :
    lcGo (tgP 4 5) yesT (tupF (consA (f2 dIx (vF 5) (cF (.int 0))) (consA (cF (.str t)) (consA (vF 4) nilA)))) ρ (numbered (es.map eEntry)) = some ((rowsOf s es).map eRow) := by
  subst ht
  obtain ⟨a, b, c, d, e, f, r, rfl⟩ := h
  rw [num_map, lc_map (fun p : Nat × Entry => PyData.tuple [.int p.1, eEntry p.2]) (fun p => .tuple [.int p.2.1, .str (sideS s), .int p.1])]
  · congr 1
    apply List.ext_getElem?
    intro i
    simp only [rowsOf, List.getElem?_map, List.getElem?_mapIdx]
    cases es[i]? <;> rfl
  · rintro ⟨i, e⟩ _
    simp [eEntry]
/-! ### the law's own parting -/
def BG : Bs := (seqS (ifS (orT (asB (f2 dEq (vF 7) (cF (.int 0)))) (asB (f2 dGt (f2 dSub (f2 dIx (f2 dIx (vF 3) (vF 7)) (cF (.int 0))) (f2 dIx (f2 dIx (vF 3) (f2 dSub (vF 7) (cF (.int 1)))) (cF (.int 0)))) (vF 2)))) (lolNewS 6) nopS) (lolAppS 6 (tupF (consA (f2 dIx (f2 dIx (vF 3) (vF 7)) (cF (.int 1))) (consA (f2 dIx (f2 dIx (vF 3) (vF 7)) (cF (.int 2))) nilA)))))
theorem turnG (v0 v1 v4 v5 : Option PyData) (span : Int) (rs : List Row) (hrs : rs.length ≤ 1000) (k : Nat) (r : Row) (hr : rs[k]? = some r) (gs : List (List Row)) (hg : gs.flatten = rs.take k) (hne : ∀ g, g ∈ gs → g ≠ []) :
    ∃ gs' : List (List Row), BG [v0, v1, some (.int span), some (.list (rs.map eRow)), v4, v5, some (.list (gs.map eG)), some (.int k)] = some (.nx [v0, v1, some (.int span), some (.list (rs.map eRow)), v4, v5, some (.list (gs'.map eG)), some (.int k)]) ∧ gs'.flatten = rs.take (k + 1) ∧ ∀ g, g ∈ gs' → g ≠ [] := by
  have hk : k < rs.length := (List.getElem?_eq_some_iff.mp hr).1
  have e1 : rs.take (k + 1) = rs.take k ++ [r] := by rw [List.take_add_one, hr]; rfl
  have hat : atI (rs.map eRow) (k : Int) = some (eRow r) := atI_nat (by simp [hr])
  have hgl : gs.length ≤ gs.flatten.length := by
    clear hg
    induction gs with
    | nil => simp
    | cons g gs ih =>
      have h1 := List.length_pos_iff.mpr (hne g (by simp))
      have h2 := ih fun g hg => hne g (by simp [hg])
      simp only [List.length_cons, List.flatten_cons, List.length_append]
      omega
  have hgl2 : gs.length < 16777216 := by rw [hg, List.length_take] at hgl; omega
  have ap : ∀ gs2 : List (List Row), gs2 ≠ [] → gs2.flatten = rs.take k → lolAppS 6 (tupF (consA (f2 dIx (f2 dIx (vF 3) (vF 7)) (cF (.int 1))) (consA (f2 dIx (f2 dIx (vF 3) (vF 7)) (cF (.int 2))) nilA))) [v0, v1, some (.int span), some (.list (rs.map eRow)), v4, v5, some (.list (gs2.map eG)), some (.int k)] =
      some (.nx [v0, v1, some (.int span), some (.list (rs.map eRow)), v4, v5, some (.list ((gs2.dropLast ++ [(gs2.getLast?.getD []) ++ [r]]).map eG)), some (.int k)]) ∧ (gs2.dropLast ++ [(gs2.getLast?.getD []) ++ [r]]).flatten = rs.take (k + 1) := by
    intro gs2 hn2 hf2
    obtain ⟨a, g, rfl⟩ : ∃ a g, gs2 = a ++ [g] := ⟨gs2.dropLast, gs2.getLast hn2, (List.dropLast_concat_getLast hn2).symm⟩
    have hgl3 : g.length < 16777216 := by
      have := congrArg List.length hf2
      simp only [List.flatten_append, List.length_append, List.flatten_cons, List.flatten_nil, List.append_nil, List.length_take] at this
      omega
    have h1 : atI [PyData.int r.1, .str (sideS r.2.1), .int r.2.2] 1 = some (.str (sideS r.2.1)) := at1
    have h2 : atI [PyData.int r.1, .str (sideS r.2.1), .int r.2.2] 2 = some (.int r.2.2) := at2
    refine ⟨?_, ?_⟩
    · simp [hat]
      simp [eRow, h1, h2, eG, eMark, hgl3]
    · rw [e1, ← hf2]; simp
  have one : (orT (asB (f2 dEq (vF 7) (cF (.int 0)))) (asB (f2 dGt (f2 dSub (f2 dIx (f2 dIx (vF 3) (vF 7)) (cF (.int 0))) (f2 dIx (f2 dIx (vF 3) (f2 dSub (vF 7) (cF (.int 1)))) (cF (.int 0)))) (vF 2)))) [v0, v1, some (.int span), some (.list (rs.map eRow)), v4, v5, some (.list (gs.map eG)), some (.int k)] = some true ∨
      (k ≠ 0 ∧ (orT (asB (f2 dEq (vF 7) (cF (.int 0)))) (asB (f2 dGt (f2 dSub (f2 dIx (f2 dIx (vF 3) (vF 7)) (cF (.int 0))) (f2 dIx (f2 dIx (vF 3) (f2 dSub (vF 7) (cF (.int 1)))) (cF (.int 0)))) (vF 2)))) [v0, v1, some (.int span), some (.list (rs.map eRow)), v4, v5, some (.list (gs.map eG)), some (.int k)] = some false) := by
    by_cases h0 : k = 0
    · subst h0; left; simp
    · obtain ⟨q, hq⟩ : ∃ q, rs[k - 1]? = some q := ⟨rs[k - 1], List.getElem?_eq_getElem (by omega)⟩
      have hat2 : atI (rs.map eRow) ((k : Int) - 1) = some (eRow q) := by
        rw [show (k : Int) - 1 = ((k - 1 : Nat) : Int) by omega]
        exact atI_nat (by simp [hq])
      have h1 : ∀ x : Row, dIx (eRow x) (.int 0) = some (.int x.1) := fun x => at0
      by_cases hs : span < r.1 - q.1
      · left
        simp [hat, hat2, h1, hs, h0]
      · right
        refine ⟨h0, ?_⟩
        simp [hat, hat2, h1, hs, h0]
  unfold BG
  rcases one with one | ⟨h0, one⟩
  · obtain ⟨h1, h2⟩ := ap (gs ++ [[]]) (by simp) (by simp [hg])
    refine ⟨_, ?_, h2, ?_⟩
    · rw [e_seqS, e_ifS, one]
      simp only [e_lolNewS, e_dvGet, List.getElem?_cons_succ, List.getElem?_cons_zero, Option.join_some, List.length_map, hgl2, if_true, List.set_cons_succ, List.set_cons_zero]
      have h1' := h1
      rw [List.map_append] at h1'
      exact h1'
    · intro g hg'
      simp at hg'
      rcases hg' with hg' | rfl
      · exact hne g hg'
      · simp
  · have hn : gs ≠ [] := fun z => by
      subst z
      have := congrArg List.length hg
      simp at this
      omega
    obtain ⟨h1, h2⟩ := ap gs hn hg
    refine ⟨_, ?_, h2, ?_⟩
    · rw [e_seqS, e_ifS, one]
      exact h1
    · intro g hg'
      rcases List.mem_append.mp hg' with hg' | hg'
      · exact hne g (List.dropLast_subset _ hg')
      · rw [List.mem_singleton.mp hg']; simp
theorem loopG (v0 v1 v4 v5 v7 : Option PyData) (span : Int) (rs : List Row) (hrs : rs.length ≤ 1000) :
    ∃ (gs : List (List Row)) (w7 : Option PyData), forGo (tgN 7) BG (upFrom 0 rs.length) [v0, v1, some (.int span), some (.list (rs.map eRow)), v4, v5, some (.list []), v7] = some (.nx [v0, v1, some (.int span), some (.list (rs.map eRow)), v4, v5, some (.list (gs.map eG)), w7]) ∧ gs.flatten = rs ∧ ∀ g, g ∈ gs → g ≠ [] := by
  have go := for_ex (tgt := tgN 7) (B := BG) (fun k : Nat => PyData.int (0 + k)) (fun pre ρ => ∃ (gs : List (List Row)) (w7 : Option PyData), ρ = [v0, v1, some (.int span), some (.list (rs.map eRow)), v4, v5, some (.list (gs.map eG)), w7] ∧ gs.flatten = rs.take pre.length ∧ ∀ g, g ∈ gs → g ≠ []) (List.range rs.length) [] _ ⟨[], v7, rfl, by simp, by simp⟩ (fun pre k post ρ e ⟨gs, w7, hρ, hf, hne⟩ => ?_)
  · obtain ⟨ρ', h1, gs, w7, h2, h3, h4⟩ := go
    refine ⟨gs, w7, ?_, by rw [h3]; simp, h4⟩
    rw [← h2, ← h1]
    rfl
  · rw [List.nil_append] at e
    subst hρ
    have hk : k = pre.length := by
      have h1 : (List.range rs.length)[pre.length]? = some k := by rw [e]; simp
      rw [List.getElem?_range (by have := congrArg List.length e; simp at this; omega)] at h1
      cases h1; rfl
    subst hk
    have hlt : pre.length < rs.length := by have := congrArg List.length e; simp at this; omega
    obtain ⟨gs', h1, h2, h3⟩ := turnG v0 v1 v4 v5 span rs hrs pre.length rs[pre.length] (List.getElem?_eq_getElem hlt) gs hf hne
    refine ⟨_, ?_, gs', some (.int pre.length), rfl, ?_, h3⟩
    · simp only [e_tgN, Option.bind_some, List.set_cons_succ, List.set_cons_zero, Int.zero_add]
      exact h1
    · rw [h2]; simp
theorem lgroups_eq (banks books : List Entry) (span : Int) (h1 : banks.length ≤ 400) (h2 : books.length ≤ 400) :
    ∃ gs : List (List Row), S__law_groups [.list (banks.map eEntry), .list (books.map eEntry), .int span] = some (.list (gs.map eG)) ∧ gs.flatten = sortedRows banks books ∧ ∀ g, g ∈ gs → g ≠ [] := by
  have hl : (rowsOf false banks).length + (rowsOf true books).length ≤ 16777216 := by simp only [rowsOf, List.length_mapIdx]; omega
  have hs : dSorted [.list ((rowsOf false banks ++ rowsOf true books).map eRow)] = some ((sortedRows banks books).map eRow) := sort_rows _
  have hsl : (sortedRows banks books).length ≤ 1000 := by rw [sorted_length]; omega
  obtain ⟨gs, w7, h, hf, hne⟩ := loopG (some (.list (banks.map eEntry))) (some (.list (books.map eEntry))) none none none span (sortedRows banks books) hsl
  refine ⟨gs, ?_, hf, hne⟩
  unfold BG at h
  rw [List.map_append] at hs
  have hr : dRange [.int (((sortedRows banks books).length : Nat) : Int)] = some (upFrom 0 (sortedRows banks books).length) := by
    rw [e_range1, if_pos (by omega)]
    rfl
  unfold S__law_groups B__law_groups
  simp only [e_runF, e_env0, List.length_cons, List.length_nil, Nat.zero_add, Nat.reduceAdd, if_true, List.map_cons, List.map_nil, List.cons_append, List.nil_append, List.replicate, Nat.reduceSub, e_seqS, e_setS, e_lstF, e_lcF, e_enF, e_vF, e_wipeC, e_wipeN, List.getElem?_cons_succ, List.getElem?_cons_zero, Option.join_some, Option.bind_some, List.set_cons_succ, List.set_cons_zero, Option.map_some]
  rw [row_comp4 false "bank" rfl banks ⟨_, _, _, _, _, _, _, rfl⟩]
  simp only [Option.map_some, e_fL, e_consA, e_nilA, e_f2, e_lstF, e_lcF, e_enF, e_vF, e_wipeC, e_wipeN, List.getElem?_cons_succ, List.getElem?_cons_zero, Option.join_some, Option.bind_some, List.set_cons_succ, List.set_cons_zero]
  rw [row_comp4 true "book" rfl books ⟨_, _, _, _, _, _, _, rfl⟩]
  simp only [Option.map_some, Option.bind_some, e_dAddL, List.length_map, hl, if_true, hs, List.set_cons_succ, List.set_cons_zero, e_setO, e_few, e_nilA, List.length_nil, Nat.zero_le, e_forS, e_fL, e_exN, e_consA, e_vF, List.getElem?_cons_succ, List.getElem?_cons_zero, Option.join_some, e_lenL, Nat.reduceAdd, List.length_cons, hr, h, e_retS]
end Dat
open PySem PySem.Spec PyProof.Rows L2
namespace Dat
def cellI (ns : List Int) (i : Int) : Int := ns.getD i.toNat 0
theorem cell_at (ns : List Int) (i : Int) (hi : 0 ≤ i) : S__law_cell_at [.list (ns.map .int), .int i] = some (.int (cellI ns i)) := by
  unfold S__law_cell_at B__law_cell_at cellI
  obtain ⟨k, rfl⟩ : ∃ k : Nat, i = k := ⟨i.toNat, by omega⟩
  by_cases h : k < ns.length
  · have h' : (k : Int) < ns.length := by omega
    have h2 : atI (ns.map PyData.int) (k : Int) = some (.int (ns.getD k 0)) := atI_nat (by simp [List.getElem?_eq_getElem h, List.getD_eq_getElem?_getD])
    simp [h', h2]
  · have h' : ¬ (k : Int) < ns.length := by omega
    simp [h', List.getElem?_eq_none (Nat.le_of_not_lt h)]
/-! ### the law -/
theorem at3 {α : Type} {a b c d : α} {r : List α} : atI (a :: b :: c :: d :: r) 3 = some d := atI_nat (j := 3) rfl
theorem at4 {α : Type} {a b c d e : α} {r : List α} : atI (a :: b :: c :: d :: e :: r) 4 = some e := atI_nat (j := 4) rfl
theorem at5 {α : Type} {a b c d e f : α} {r : List α} : atI (a :: b :: c :: d :: e :: f :: r) 5 = some f := atI_nat (j := 5) rfl
def entryM (c days scale : Int) : Entry := (c % days,
  (if c / 12 % 6 = 0 then 1 else if c / 12 % 6 = 1 then 2 else if c / 12 % 6 = 2 then 3 else if c / 12 % 6 = 3 then 4 else if c / 12 % 6 = 4 then -1 else -2) * scale)
theorem entry_eq (c days scale : Int) (hd : 0 < days) : S__law_entry [.int c, .int days, .int scale] = some (eEntry (entryM c days scale)) := by
  unfold S__law_entry B__law_entry
  have h6 : c / 12 % 6 = 0 ∨ c / 12 % 6 = 1 ∨ c / 12 % 6 = 2 ∨ c / 12 % 6 = 3 ∨ c / 12 % 6 = 4 ∨ c / 12 % 6 = 5 := by omega
  rcases h6 with h | h | h | h | h | h <;> simp [h, hd, at3, at4, at5, entryM, eEntry]
theorem is_match_eq (m : Mt) (h : m.1 ≠ []) (h1 : m.1.length ≤ 100) (h2 : m.2.length ≤ 100) : S__law_is_match [eMt m] = some (.bool true) := by
  unfold S__law_is_match B__law_is_match
  have ha : dAdd (.tuple (eI m.1)) (.tuple (eI m.2)) = some (.tuple (eI (m.1 ++ m.2))) := by
    show (if _ then _ else _) = _
    rw [if_pos ⟨by simp [eI]; omega, by simpa [eI] using h⟩]
    simp [eI]
  have lp : ∀ (ps : List Int) (v0 v1 : Option PyData), ∃ w1, forGo (tgN 1) (ifS (orT (notT (asB (f1 (dIsi PyData.isInt) (vF 1)))) (asB (f1 (dIsi PyData.isBool) (vF 1)))) (retS (cF (.bool false))) nopS) (eI ps) [v0, v1] = some (.nx [v0, w1]) := by
    intro ps v0
    induction ps with
    | nil => exact fun v1 => ⟨v1, rfl⟩
    | cons p ps ih =>
      intro v1
      obtain ⟨w1, ih⟩ := ih (some (.int p))
      refine ⟨w1, ?_⟩
      simp [forGo, eI] at ih ⊢
      exact ih
  obtain ⟨w1, hl⟩ := lp (m.1 ++ m.2) (some (eMt m)) none
  simp only [eMt, eP] at hl ⊢
  simp [ha, hl, -List.map_append, eI] at ha hl ⊢
  first | done | simp [ha, hl]
theorem within_mem {banks books : List Entry} {span : Int} {g : List Mark} {m : Mt} (hn : g.Nodup) (hv : ∀ m, m ∈ g → m.2 < (if m.1 = true then books else banks).length) (h : m ∈ withinM banks books span g) : shp m.1 banks.length = true ∧ shp m.2 books.length = true := by
  obtain ⟨hm1, hm2⟩ := plc_in hv
  unfold withinM at h
  rw [(List.mergeSort_perm _ _).mem_iff] at h
  unfold foundOf at h
  simp only [List.mem_flatMap, List.mem_map, List.mem_filter] at h
  obtain ⟨a, ha, b, ⟨hb, _⟩, rfl⟩ := h
  exact ⟨rowsP_mem (plc_strict hn) hm1 _ ha, rowsP_mem (plc_strict hn) hm2 _ hb⟩
theorem group_marks {banks books : List Entry} {gs : List (List Row)} {g : List Row} (hf : gs.flatten = sortedRows banks books) (hg : g ∈ gs) : (g.map (·.2)).Nodup ∧ ∀ m, m ∈ g.map (·.2) → m.2 < (if m.1 = true then books else banks).length := by
  constructor
  · have h1 : ((sortedRows banks books).map (·.2)).Nodup := ((List.mergeSort_perm _ _).map _).nodup_iff.mpr (rows_nodup banks books)
    rw [← hf] at h1
    have h2 : g.Sublist gs.flatten := List.sublist_flatten_of_mem hg
    exact (h2.map _).nodup h1
  · intro m hm
    obtain ⟨r, hr, rfl⟩ := List.mem_map.mp hm
    have h1 : r ∈ sortedRows banks books := by rw [← hf]; exact List.mem_flatten.mpr ⟨g, hg, hr⟩
    have h2 := row_mem (sorted_mem.mp h1)
    cases e : (if r.2.1 = true then books else banks)[r.2.2]? with
    | none => rw [e] at h2; cases h2
    | some x => exact (List.getElem?_eq_some_iff.mp e).1
theorem law_holds : ∀ ns : List Int, ns.length ≤ 63 → S_law [.list (ns.map .int)] = some (.bool true) := by
  intro ns hns
  generalize hscale : 1 + cellI ns 1 / 3 % 2 * (cellI ns 1 / 6 % (10 ^ 8)) = scale
  generalize hs1 : cellI ns 0 % 6 = z1
  generalize hs2 : cellI ns 0 / 6 % 6 = z2
  generalize hsp : cellI ns 2 % 6 = span
  have b1 : 0 ≤ z1 ∧ z1 ≤ 5 := by omega
  have b2 : 0 ≤ z2 ∧ z2 ≤ 5 := by omega
  have r1 : z1 ≤ 16777216 := by omega
  have r2 : -16777216 ≤ z1 := by omega
  have r3 : z2 ≤ 16777216 := by omega
  have r4 : -16777216 ≤ z2 := by omega
  have t4 : ∀ days : Int, 0 < days → ∃ ρ', T_law_4 [some (.list (ns.map .int)), some (.int days), some (.int scale), some (.int span), some (.tuple [.int z1, .int z2]), none, none, none, none, none, none, none, none, none, none] = some (.ret (.bool true) ρ') := by
    intro days hdays
    generalize hb : (List.range z1.toNat).map (fun k : Nat => entryM (cellI ns (4 + (k : Int))) days scale) = banks
    generalize hk : (List.range z2.toNat).map (fun k : Nat => entryM (cellI ns (9 + (k : Int))) days scale) = books
    have l1 : banks.length ≤ 5 := by rw [← hb, List.length_map, List.length_range]; omega
    have l2 : books.length ≤ 5 := by rw [← hk, List.length_map, List.length_range]; omega
    obtain ⟨gs, hgs, hf, hne⟩ := lgroups_eq banks books span (by omega) (by omega)
    unfold T_law_4 T_law_5
    simp [r1, r2, r3, r4]
    rw [lc_range 0 _ (fun k : Nat => eEntry (entryM (cellI ns (4 + (k : Int))) days scale)) fun k hk => by
      have h0 : 0 ≤ 4 + (k : Int) := by omega
      simp [cell_at ns _ h0, entry_eq _ _ _ hdays]]
    rw [show (List.range z1.toNat).map (fun k : Nat => eEntry (entryM (cellI ns (4 + (k : Int))) days scale)) = banks.map eEntry by rw [← hb, List.map_map]; rfl]
    simp only [Option.map_some]
    simp [r1, r2, r3, r4]
    rw [lc_range 0 _ (fun k : Nat => eEntry (entryM (cellI ns (9 + (k : Int))) days scale)) fun k hk => by
      have h0 : 0 ≤ 9 + (k : Int) := by omega
      simp [cell_at ns _ h0, entry_eq _ _ _ hdays]]
    rw [show (List.range z2.toNat).map (fun k : Nat => eEntry (entryM (cellI ns (9 + (k : Int))) days scale)) = books.map eEntry by rw [← hk, List.map_map]; rfl]
    simp only [Option.map_some]
    unfold T_law_6 T_law_7
    cases hgs0 : gs with
    | nil =>
      rw [hgs0] at hgs
      have hw := within_eq (banks := []) (books := []) (span := span) (g := []) List.nodup_nil (by simp) (by simp) (by simp)
      have hw2 : withinM [] [] span [] = [] := by simp [withinM, plc, rowsP, foundOf]
      rw [hw2] at hw
      simp at hw hgs
      refine ⟨[some (.list (ns.map .int)), some (.int days), some (.int scale), some (.int span), some (.tuple [.int z1, .int z2]), some (.list (banks.map eEntry)), none, some (.list (books.map eEntry)), some (.list []), none, none, none, none, none, none], ?_⟩
      simp [hgs, hw]
    | cons g0 gr =>
      have hpos : 0 < gs.length := by rw [hgs0]; simp
      have hpos' : (0 : Int) < gs.length := by omega
      have hm0 := Int.emod_nonneg (cellI ns 3) (b := gs.length) (by omega)
      have hm1 := Int.emod_lt_of_pos (cellI ns 3) hpos'
      obtain ⟨k, hk⟩ : ∃ k : Nat, cellI ns 3 % (gs.length : Int) = k := ⟨(cellI ns 3 % (gs.length : Int)).toNat, by omega⟩
      have hklt : k < gs.length := by omega
      obtain ⟨g, hg⟩ : ∃ g, gs[k]? = some g := ⟨_, List.getElem?_eq_getElem hklt⟩
      have hgm : g ∈ gs := List.mem_of_getElem? hg
      have hat : atI (gs.map eG) (k : Int) = some (.list ((g.map (·.2)).map eMark)) := atI_nat (by simp [hg, eG])
      obtain ⟨hn, hv⟩ := group_marks hf hgm
      have hw := within_eq (span := span) hn hv l1 l2
      have hd := due_eq (span := span) hn hv l1 l2
      have n1 := ne_lists eqv_entry depth_entry banks banks
      have n2 := ne_lists eqv_entry depth_entry books books
      have n3 := ne_lists eqv_mark depth_mark (g.map (·.2)) (g.map (·.2))
      have e1 := eq_lists eqv_mt depth_mt (withinM banks books span (g.map (·.2))) (withinM banks books span (g.map (·.2)))
      simp only [decide_true, Bool.not_true] at n1 n2 n3 e1
      have hmem : ∀ m, m ∈ withinM banks books span (g.map (·.2)) → S__law_is_match [eMt m] = some (.bool true) := fun m hm => by
        obtain ⟨x, y⟩ := within_mem hn hv hm
        obtain ⟨x1, x2, _⟩ := shp_mem x
        obtain ⟨y1, y2, _⟩ := shp_mem y
        exact is_match_eq m x1 (by omega) (by omega)
      generalize hW : withinM banks books span (g.map (·.2)) = W at hw hd e1 hmem
      have hfil : ∀ ρ : Dv, 14 < ρ.length → lcGo (tgN 14) (notT (asB (fL S__law_is_match (consA (vF 14) nilA)))) (vF 14) ρ (W.map eMt) = some [] := by
        intro ρ hl
        rw [lc_filter eMt eMt (fun _ => false) W fun m hm => ⟨ρ.set 14 (some (eMt m)), rfl, by simp [hl, hmem m hm], fun z => nomatch z⟩]
        simp
      generalize hG : (g.map (·.2)).map eMark = G at hat hw hd n3
      have hemp : (gs.map eG).isEmpty = false := by rw [hgs0]; rfl
      unfold T_law_8 T_law_9 T_law_10 T_law_11 T_law_12 T_law_13 T_law_14 T_law_15
      refine ⟨[some (.list (ns.map .int)), some (.int days), some (.int scale), some (.int span), some (.tuple [.int z1, .int z2]), some (.list (banks.map eEntry)), none, some (.list (books.map eEntry)), some (.list (gs.map eG)), some (.list G), some (.list (banks.map eEntry)), some (.list (books.map eEntry)), some (.list G), some (.list (W.map eMt)), none], ?_⟩
      simp only [Function.comp_apply, e_seqS, e_setS, e_ifS, e_orT, e_notT, e_asB, e_f1, e_f2, e_fL, e_consA, e_nilA, e_lstF, e_lcF, e_seqA, e_few, e_vF, e_cF, e_wipeC, e_wipeN, e_retS, e_nopS, List.getElem?_cons_succ, List.getElem?_cons_zero, Option.join_some, Option.bind_some, Option.map_some, List.set_cons_succ, List.set_cons_zero, hgs, List.length_nil, Nat.zero_le, if_true, eq_nil, hemp, cell_at ns 3 (by omega), e_lenL, List.length_map, e_dMod, hpos', hk, e_dIxL, hat, e_dListL, hw, e_dIsi, e_isList, Bool.not_true, n1, n2, n3]
      rw [hfil _ (by simp)]
      simp only [Option.map_some, Option.bind_some, ne_nil, List.isEmpty_nil, Bool.not_true, e_nopS, e_retS, e_f2, e_fL, e_consA, e_nilA, e_vF, List.getElem?_cons_succ, List.getElem?_cons_zero, Option.join_some, hd, e1]
  unfold S_law B_law T_law_1 T_law_2 T_law_3
  have q1 : -(2 ^ 64) < cellI ns 1 / 3 % 2 ∧ cellI ns 1 / 3 % 2 < 2 ^ 64 := by omega
  simp at q1 hscale
  have h3 : cellI ns 1 % 3 = 0 ∨ cellI ns 1 % 3 = 1 ∨ cellI ns 1 % 3 = 2 := by omega
  rcases h3 with h3 | h3 | h3
  · obtain ⟨ρ', h⟩ := t4 4 (by omega)
    simp [cell_at, h3, q1, hscale, hsp, hs1, hs2, h]
  · obtain ⟨ρ', h⟩ := t4 4 (by omega)
    simp [cell_at, h3, q1, hscale, hsp, hs1, hs2, h]
  · obtain ⟨ρ', h⟩ := t4 12 (by omega)
    simp [cell_at, h3, q1, hscale, hsp, hs1, hs2, h]
end Dat
open PySem PySem.Spec PyProof.Rows L2
namespace Dat
theorem all_mk {l : PySem.W.OpenLaw} {w : World} {K : PySem.W.Frag} {h : Heap} {mg : Str → Option Value} {fa : Addr} (X : K.In h) (G : h.Ns mainGlobals mg) (hfa : mg "law" = some (.ref fa))
    {f_is_shaped : Addr} {oc_is_shaped kV_is_shaped dc_is_shaped pm_is_shaped cd_is_shaped ct_is_shaped : Value} {od_is_shaped an_is_shaped : Option Addr} {sl_is_shaped : Array (Option Value)}
    {f_fits : Addr} {oc_fits kV_fits dc_fits pm_fits cd_fits ct_fits : Value} {od_fits an_fits : Option Addr} {sl_fits : Array (Option Value)}
    {f_rows_of : Addr} {oc_rows_of kV_rows_of dc_rows_of pm_rows_of cd_rows_of ct_rows_of : Value} {od_rows_of an_rows_of : Option Addr} {sl_rows_of : Array (Option Value)}
    {f_rank : Addr} {oc_rank kV_rank dc_rank pm_rank cd_rank ct_rank : Value} {od_rank an_rank : Option Addr} {sl_rank : Array (Option Value)}
    {f_within : Addr} {oc_within kV_within dc_within pm_within cd_within ct_within : Value} {od_within an_within : Option Addr} {sl_within : Array (Option Value)}
    {f__law_cell_at : Addr} {oc__law_cell_at kV__law_cell_at dc__law_cell_at pm__law_cell_at cd__law_cell_at ct__law_cell_at : Value} {od__law_cell_at an__law_cell_at : Option Addr} {sl__law_cell_at : Array (Option Value)}
    {f__law_entry : Addr} {oc__law_entry kV__law_entry dc__law_entry pm__law_entry cd__law_entry ct__law_entry : Value} {od__law_entry an__law_entry : Option Addr} {sl__law_entry : Array (Option Value)}
    {f__law_groups : Addr} {oc__law_groups kV__law_groups dc__law_groups pm__law_groups cd__law_groups ct__law_groups : Value} {od__law_groups an__law_groups : Option Addr} {sl__law_groups : Array (Option Value)}
    {f__law_chosen : Addr} {oc__law_chosen kV__law_chosen dc__law_chosen pm__law_chosen cd__law_chosen ct__law_chosen : Value} {od__law_chosen an__law_chosen : Option Addr} {sl__law_chosen : Array (Option Value)}
    {f__law_rows_of : Addr} {oc__law_rows_of kV__law_rows_of dc__law_rows_of pm__law_rows_of cd__law_rows_of ct__law_rows_of : Value} {od__law_rows_of an__law_rows_of : Option Addr} {sl__law_rows_of : Array (Option Value)}
    {f__law_due : Addr} {oc__law_due kV__law_due dc__law_due pm__law_due cd__law_due ct__law_due : Value} {od__law_due an__law_due : Option Addr} {sl__law_due : Array (Option Value)}
    {f__law_is_match : Addr} {oc__law_is_match kV__law_is_match dc__law_is_match pm__law_is_match cd__law_is_match ct__law_is_match : Value} {od__law_is_match an__law_is_match : Option Addr} {sl__law_is_match : Array (Option Value)}
    {f_law : Addr} {oc_law kV_law dc_law pm_law cd_law ct_law : Value} {od_law an_law : Option Addr} {sl_law : Array (Option Value)}
    {t_MOST : Tok}
    (a_is_shaped : PySem.W.nsIn K mainGlobals "is_shaped" = some (some (.ref f_is_shaped))) (l_is_shaped : K.lookup f_is_shaped = some ⟨oc_is_shaped, od_is_shaped, .func (PySem.W.fnOf "is_shaped" "is_shaped" (defArgs s_is_shaped) (defBody s_is_shaped) (defScope s_is_shaped) .none kV_is_shaped dc_is_shaped pm_is_shaped an_is_shaped cd_is_shaped ct_is_shaped), sl_is_shaped⟩) (c_is_shaped : PySem.W.codeIn K cd_is_shaped "is_shaped" = true) (k_is_shaped : PySem.W.keepIn K (.ref f_is_shaped) = true)
    (a_fits : PySem.W.nsIn K mainGlobals "fits" = some (some (.ref f_fits))) (l_fits : K.lookup f_fits = some ⟨oc_fits, od_fits, .func (PySem.W.fnOf "fits" "fits" (defArgs s_fits) (defBody s_fits) (defScope s_fits) .none kV_fits dc_fits pm_fits an_fits cd_fits ct_fits), sl_fits⟩) (c_fits : PySem.W.codeIn K cd_fits "fits" = true) (k_fits : PySem.W.keepIn K (.ref f_fits) = true)
    (a_rows_of : PySem.W.nsIn K mainGlobals "rows_of" = some (some (.ref f_rows_of))) (l_rows_of : K.lookup f_rows_of = some ⟨oc_rows_of, od_rows_of, .func (PySem.W.fnOf "rows_of" "rows_of" (defArgs s_rows_of) (defBody s_rows_of) (defScope s_rows_of) .none kV_rows_of dc_rows_of pm_rows_of an_rows_of cd_rows_of ct_rows_of), sl_rows_of⟩) (c_rows_of : PySem.W.codeIn K cd_rows_of "rows_of" = true) (k_rows_of : PySem.W.keepIn K (.ref f_rows_of) = true)
    (a_rank : PySem.W.nsIn K mainGlobals "rank" = some (some (.ref f_rank))) (l_rank : K.lookup f_rank = some ⟨oc_rank, od_rank, .func (PySem.W.fnOf "rank" "rank" (defArgs s_rank) (defBody s_rank) (defScope s_rank) .none kV_rank dc_rank pm_rank an_rank cd_rank ct_rank), sl_rank⟩) (c_rank : PySem.W.codeIn K cd_rank "rank" = true) (k_rank : PySem.W.keepIn K (.ref f_rank) = true)
    (a_within : PySem.W.nsIn K mainGlobals "within" = some (some (.ref f_within))) (l_within : K.lookup f_within = some ⟨oc_within, od_within, .func (PySem.W.fnOf "within" "within" (defArgs s_within) (defBody s_within) (defScope s_within) .none kV_within dc_within pm_within an_within cd_within ct_within), sl_within⟩) (c_within : PySem.W.codeIn K cd_within "within" = true) (k_within : PySem.W.keepIn K (.ref f_within) = true)
    (a__law_cell_at : PySem.W.nsIn K mainGlobals "_law_cell_at" = some (some (.ref f__law_cell_at))) (l__law_cell_at : K.lookup f__law_cell_at = some ⟨oc__law_cell_at, od__law_cell_at, .func (PySem.W.fnOf "_law_cell_at" "_law_cell_at" (defArgs s__law_cell_at) (defBody s__law_cell_at) (defScope s__law_cell_at) .none kV__law_cell_at dc__law_cell_at pm__law_cell_at an__law_cell_at cd__law_cell_at ct__law_cell_at), sl__law_cell_at⟩) (c__law_cell_at : PySem.W.codeIn K cd__law_cell_at "_law_cell_at" = true) (k__law_cell_at : PySem.W.keepIn K (.ref f__law_cell_at) = true)
    (a__law_entry : PySem.W.nsIn K mainGlobals "_law_entry" = some (some (.ref f__law_entry))) (l__law_entry : K.lookup f__law_entry = some ⟨oc__law_entry, od__law_entry, .func (PySem.W.fnOf "_law_entry" "_law_entry" (defArgs s__law_entry) (defBody s__law_entry) (defScope s__law_entry) .none kV__law_entry dc__law_entry pm__law_entry an__law_entry cd__law_entry ct__law_entry), sl__law_entry⟩) (c__law_entry : PySem.W.codeIn K cd__law_entry "_law_entry" = true) (k__law_entry : PySem.W.keepIn K (.ref f__law_entry) = true)
    (a__law_groups : PySem.W.nsIn K mainGlobals "_law_groups" = some (some (.ref f__law_groups))) (l__law_groups : K.lookup f__law_groups = some ⟨oc__law_groups, od__law_groups, .func (PySem.W.fnOf "_law_groups" "_law_groups" (defArgs s__law_groups) (defBody s__law_groups) (defScope s__law_groups) .none kV__law_groups dc__law_groups pm__law_groups an__law_groups cd__law_groups ct__law_groups), sl__law_groups⟩) (c__law_groups : PySem.W.codeIn K cd__law_groups "_law_groups" = true) (k__law_groups : PySem.W.keepIn K (.ref f__law_groups) = true)
    (a__law_chosen : PySem.W.nsIn K mainGlobals "_law_chosen" = some (some (.ref f__law_chosen))) (l__law_chosen : K.lookup f__law_chosen = some ⟨oc__law_chosen, od__law_chosen, .func (PySem.W.fnOf "_law_chosen" "_law_chosen" (defArgs s__law_chosen) (defBody s__law_chosen) (defScope s__law_chosen) .none kV__law_chosen dc__law_chosen pm__law_chosen an__law_chosen cd__law_chosen ct__law_chosen), sl__law_chosen⟩) (c__law_chosen : PySem.W.codeIn K cd__law_chosen "_law_chosen" = true) (k__law_chosen : PySem.W.keepIn K (.ref f__law_chosen) = true)
    (a__law_rows_of : PySem.W.nsIn K mainGlobals "_law_rows_of" = some (some (.ref f__law_rows_of))) (l__law_rows_of : K.lookup f__law_rows_of = some ⟨oc__law_rows_of, od__law_rows_of, .func (PySem.W.fnOf "_law_rows_of" "_law_rows_of" (defArgs s__law_rows_of) (defBody s__law_rows_of) (defScope s__law_rows_of) .none kV__law_rows_of dc__law_rows_of pm__law_rows_of an__law_rows_of cd__law_rows_of ct__law_rows_of), sl__law_rows_of⟩) (c__law_rows_of : PySem.W.codeIn K cd__law_rows_of "_law_rows_of" = true) (k__law_rows_of : PySem.W.keepIn K (.ref f__law_rows_of) = true)
    (a__law_due : PySem.W.nsIn K mainGlobals "_law_due" = some (some (.ref f__law_due))) (l__law_due : K.lookup f__law_due = some ⟨oc__law_due, od__law_due, .func (PySem.W.fnOf "_law_due" "_law_due" (defArgs s__law_due) (defBody s__law_due) (defScope s__law_due) .none kV__law_due dc__law_due pm__law_due an__law_due cd__law_due ct__law_due), sl__law_due⟩) (c__law_due : PySem.W.codeIn K cd__law_due "_law_due" = true) (k__law_due : PySem.W.keepIn K (.ref f__law_due) = true)
    (a__law_is_match : PySem.W.nsIn K mainGlobals "_law_is_match" = some (some (.ref f__law_is_match))) (l__law_is_match : K.lookup f__law_is_match = some ⟨oc__law_is_match, od__law_is_match, .func (PySem.W.fnOf "_law_is_match" "_law_is_match" (defArgs s__law_is_match) (defBody s__law_is_match) (defScope s__law_is_match) .none kV__law_is_match dc__law_is_match pm__law_is_match an__law_is_match cd__law_is_match ct__law_is_match), sl__law_is_match⟩) (c__law_is_match : PySem.W.codeIn K cd__law_is_match "_law_is_match" = true) (k__law_is_match : PySem.W.keepIn K (.ref f__law_is_match) = true)
    (a_law : PySem.W.nsIn K mainGlobals "law" = some (some (.ref f_law))) (l_law : K.lookup f_law = some ⟨oc_law, od_law, .func (PySem.W.fnOf "law" "law" (defArgs s_law) (defBody s_law) (defScope s_law) .none kV_law dc_law pm_law an_law cd_law ct_law), sl_law⟩) (c_law : PySem.W.codeIn K cd_law "law" = true) (k_law : PySem.W.keepIn K (.ref f_law) = true)
    (z_MOST : PySem.W.nsIn K mainGlobals "MOST" = some (some (.int 3 t_MOST)))
    (z_len : PySem.W.nsIn K mainGlobals "len" = some none)
    (z_range : PySem.W.nsIn K mainGlobals "range" = some none)
    (z_sum : PySem.W.nsIn K mainGlobals "sum" = some none)
    (z_max : PySem.W.nsIn K mainGlobals "max" = some none)
    (z_min : PySem.W.nsIn K mainGlobals "min" = some none)
    (z_sorted : PySem.W.nsIn K mainGlobals "sorted" = some none)
    (z_enumerate : PySem.W.nsIn K mainGlobals "enumerate" = some none)
    (z_tuple : PySem.W.nsIn K mainGlobals "tuple" = some none)
    (z_isinstance : PySem.W.nsIn K mainGlobals "isinstance" = some none)
    (z_int : PySem.W.nsIn K mainGlobals "int" = some none)
    (z_bool : PySem.W.nsIn K mainGlobals "bool" = some none)
    (z_list : PySem.W.nsIn K mainGlobals "list" = some none) :
    ∃ fd : FuncData, (∀ (s : Shared) (v : Value), BindsTo s fd ⟨[v], []⟩ [("_law_script", v)]) ∧ ∀ base : Heap, K.In base → base.Ns mainGlobals mg → FnOk l.prog w K mg base CX0 5 fa fd ["_law_script"] (spD K S_law) := by
  have e := hfa.symm.trans (PySem.W.mg_of X G a_law)
  cases e
  have h_is_shaped := here_mk (x := "is_shaped") (st := s_is_shaped) (ps := ["places", "count"]) X G a_is_shaped l_is_shaped c_is_shaped k_is_shaped (fun _ _ _ _ _ _ us hl => match us, hl with | [_, _], _ => rfl)
  have h_fits := here_mk (x := "fits") (st := s_fits) (ps := ["banks", "books", "span", "match"]) X G a_fits l_fits c_fits k_fits (fun _ _ _ _ _ _ us hl => match us, hl with | [_, _, _, _], _ => rfl)
  have h_rows_of := here_mk (x := "rows_of") (st := s_rows_of) (ps := ["places"]) X G a_rows_of l_rows_of c_rows_of k_rows_of (fun _ _ _ _ _ _ us hl => match us, hl with | [_], _ => rfl)
  have h_rank := here_mk (x := "rank") (st := s_rank) (ps := ["match"]) X G a_rank l_rank c_rank k_rank (fun _ _ _ _ _ _ us hl => match us, hl with | [_], _ => rfl)
  have h_within := here_mk (x := "within") (st := s_within) (ps := ["banks", "books", "span", "group"]) X G a_within l_within c_within k_within (fun _ _ _ _ _ _ us hl => match us, hl with | [_, _, _, _], _ => rfl)
  have h__law_cell_at := here_mk (x := "_law_cell_at") (st := s__law_cell_at) (ps := ["_law_script", "_law_k"]) X G a__law_cell_at l__law_cell_at c__law_cell_at k__law_cell_at (fun _ _ _ _ _ _ us hl => match us, hl with | [_, _], _ => rfl)
  have h__law_entry := here_mk (x := "_law_entry") (st := s__law_entry) (ps := ["_law_cell", "_law_days", "_law_scale"]) X G a__law_entry l__law_entry c__law_entry k__law_entry (fun _ _ _ _ _ _ us hl => match us, hl with | [_, _, _], _ => rfl)
  have h__law_groups := here_mk (x := "_law_groups") (st := s__law_groups) (ps := ["_law_banks", "_law_books", "_law_span"]) X G a__law_groups l__law_groups c__law_groups k__law_groups (fun _ _ _ _ _ _ us hl => match us, hl with | [_, _, _], _ => rfl)
  have h__law_chosen := here_mk (x := "_law_chosen") (st := s__law_chosen) (ps := ["_law_places", "_law_number"]) X G a__law_chosen l__law_chosen c__law_chosen k__law_chosen (fun _ _ _ _ _ _ us hl => match us, hl with | [_, _], _ => rfl)
  have h__law_rows_of := here_mk (x := "_law_rows_of") (st := s__law_rows_of) (ps := ["_law_places"]) X G a__law_rows_of l__law_rows_of c__law_rows_of k__law_rows_of (fun _ _ _ _ _ _ us hl => match us, hl with | [_], _ => rfl)
  have h__law_due := here_mk (x := "_law_due") (st := s__law_due) (ps := ["_law_banks", "_law_books", "_law_span", "_law_group"]) X G a__law_due l__law_due c__law_due k__law_due (fun _ _ _ _ _ _ us hl => match us, hl with | [_, _, _, _], _ => rfl)
  have h__law_is_match := here_mk (x := "_law_is_match") (st := s__law_is_match) (ps := ["_law_match"]) X G a__law_is_match l__law_is_match c__law_is_match k__law_is_match (fun _ _ _ _ _ _ us hl => match us, hl with | [_], _ => rfl)
  have h_law := here_mk (x := "law") (st := s_law) (ps := ["_law_script"]) X G a_law l_law c_law k_law (fun _ _ _ _ _ _ us hl => match us, hl with | [_], _ => rfl)
  have g_MOST : ∃ t, mg "MOST" = some (.int 3 t) := ⟨_, PySem.W.mg_of X G z_MOST⟩
  have m_len := PySem.W.mg_none_of X G z_len
  have m_range := PySem.W.mg_none_of X G z_range
  have m_sum := PySem.W.mg_none_of X G z_sum
  have m_max := PySem.W.mg_none_of X G z_max
  have m_min := PySem.W.mg_none_of X G z_min
  have m_sorted := PySem.W.mg_none_of X G z_sorted
  have m_enumerate := PySem.W.mg_none_of X G z_enumerate
  have m_tuple := PySem.W.mg_none_of X G z_tuple
  have m_isinstance := PySem.W.mg_none_of X G z_isinstance
  have m_int := PySem.W.mg_none_of X G z_int
  have m_bool := PySem.W.mg_none_of X G z_bool
  have m_list := PySem.W.mg_none_of X G z_list
  refine ⟨PySem.W.fnOf "law" "law" (defArgs s_law) (defBody s_law) (defScope s_law) .none kV_law dc_law pm_law an_law cd_law ct_law, fun s v => .of_eq rfl, fun base _ _ => ?_⟩
  have c_is_shaped := kd_is_shaped (P := l.prog) (w := w) (base := base) h_is_shaped m_len m_range g_MOST 
  have c_fits := kd_fits (P := l.prog) (w := w) (base := base) h_fits m_len m_sum m_max m_min c_is_shaped
  have c_rows_of := kd_rows_of (P := l.prog) (w := w) (base := base) h_rows_of m_range m_len 
  have c_rank := kd_rank (P := l.prog) (w := w) (base := base) h_rank m_len 
  have c_within := kd_within (P := l.prog) (w := w) (base := base) h_within m_sorted m_min m_len c_rows_of c_fits c_rank
  have c__law_cell_at := kd__law_cell_at (P := l.prog) (w := w) (base := base) h__law_cell_at m_len 
  have c__law_entry := kd__law_entry (P := l.prog) (w := w) (base := base) h__law_entry  
  have c__law_groups := kd__law_groups (P := l.prog) (w := w) (base := base) h__law_groups m_enumerate m_sorted m_range m_len 
  have c__law_chosen := kd__law_chosen (P := l.prog) (w := w) (base := base) h__law_chosen m_tuple 
  have c__law_rows_of := kd__law_rows_of (P := l.prog) (w := w) (base := base) h__law_rows_of m_range m_len c__law_chosen
  have c__law_due := kd__law_due (P := l.prog) (w := w) (base := base) h__law_due m_sorted m_len m_sum m_max m_min c__law_rows_of
  have c__law_is_match := kd__law_is_match (P := l.prog) (w := w) (base := base) h__law_is_match m_isinstance m_tuple m_len m_int m_bool 
  exact ok_law h_law m_range m_len m_list m_isinstance c__law_cell_at c__law_entry c__law_groups c_within c__law_is_match c__law_due
end Dat
open PySem PySem.W PyProof.Rows
set_option maxRecDepth 100000 in
set_option maxHeartbeats 0 in
theorem PySem.Challenge.cw_tickoff_k04_within_holds : PySem.Challenge.rw_tickoff_k04_within.Holds := by
  w_on; o_law; k_head; (case hw => w_witness2)
  k_fill
  refine L2.walk_of (l := PySem.Challenge.rw_tickoff_k04_within) (n := 63) (k := 5) (x := "_law_script") (CX := fun _ => L2.CX0) (sp := fun w => Dat.spD _ Dat.S_law) rfl (by decide) rfl ⟨rfl, by decide, by decide⟩ (fun w h Y => PySem.W.kIn_of Y) ?F (fun _ _ a ns hl _ hS => Dat.law_sp Dat.law_holds hl hS _ _ fun _ => rfl) fun _ _ _ _ _ z => z
  case F =>
    intro w mg fa h KX G hmg
    refine' Dat.all_mk KX G hmg ?a_is_shaped ?l_is_shaped ?c_is_shaped ?k_is_shaped ?a_fits ?l_fits ?c_fits ?k_fits ?a_rows_of ?l_rows_of ?c_rows_of ?k_rows_of ?a_rank ?l_rank ?c_rank ?k_rank ?a_within ?l_within ?c_within ?k_within ?a__law_cell_at ?l__law_cell_at ?c__law_cell_at ?k__law_cell_at ?a__law_entry ?l__law_entry ?c__law_entry ?k__law_entry ?a__law_groups ?l__law_groups ?c__law_groups ?k__law_groups ?a__law_chosen ?l__law_chosen ?c__law_chosen ?k__law_chosen ?a__law_rows_of ?l__law_rows_of ?c__law_rows_of ?k__law_rows_of ?a__law_due ?l__law_due ?c__law_due ?k__law_due ?a__law_is_match ?l__law_is_match ?c__law_is_match ?k__law_is_match ?a_law ?l_law ?c_law ?k_law ?z_MOST ?z_len ?z_range ?z_sum ?z_max ?z_min ?z_sorted ?z_enumerate ?z_tuple ?z_isinstance ?z_int ?z_bool ?z_list
    (case a_is_shaped => k_is)
    (case l_is_shaped => k_is)
    (case c_is_shaped => k_is)
    (case k_is_shaped => k_is)
    (case a_fits => k_is)
    (case l_fits => k_is)
    (case c_fits => k_is)
    (case k_fits => k_is)
    (case a_rows_of => k_is)
    (case l_rows_of => k_is)
    (case c_rows_of => k_is)
    (case k_rows_of => k_is)
    (case a_rank => k_is)
    (case l_rank => k_is)
    (case c_rank => k_is)
    (case k_rank => k_is)
    (case a_within => k_is)
    (case l_within => k_is)
    (case c_within => k_is)
    (case k_within => k_is)
    (case a__law_cell_at => k_is)
    (case l__law_cell_at => k_is)
    (case c__law_cell_at => k_is)
    (case k__law_cell_at => k_is)
    (case a__law_entry => k_is)
    (case l__law_entry => k_is)
    (case c__law_entry => k_is)
    (case k__law_entry => k_is)
    (case a__law_groups => k_is)
    (case l__law_groups => k_is)
    (case c__law_groups => k_is)
    (case k__law_groups => k_is)
    (case a__law_chosen => k_is)
    (case l__law_chosen => k_is)
    (case c__law_chosen => k_is)
    (case k__law_chosen => k_is)
    (case a__law_rows_of => k_is)
    (case l__law_rows_of => k_is)
    (case c__law_rows_of => k_is)
    (case k__law_rows_of => k_is)
    (case a__law_due => k_is)
    (case l__law_due => k_is)
    (case c__law_due => k_is)
    (case k__law_due => k_is)
    (case a__law_is_match => k_is)
    (case l__law_is_match => k_is)
    (case c__law_is_match => k_is)
    (case k__law_is_match => k_is)
    (case a_law => k_is)
    (case l_law => k_is)
    (case c_law => k_is)
    (case k_law => k_is)
    (case z_MOST => k_is)
    (case z_len => k_is)
    (case z_range => k_is)
    (case z_sum => k_is)
    (case z_max => k_is)
    (case z_min => k_is)
    (case z_sorted => k_is)
    (case z_enumerate => k_is)
    (case z_tuple => k_is)
    (case z_isinstance => k_is)
    (case z_int => k_is)
    (case z_bool => k_is)
    (case z_list => k_is)
