import PyProof.Rows.All
import Wide.All
import OpenK.AllK
import Wide.FinOn
import HandS.ForMost
import HandS.Deep
import HandS.SortKw
import HandS.IsInst
import HandS.Flow
import HandS.Wide
import KE.DataEq
import KE.DataCmp
import KE.DataAny
import KE.DataIsa
import KE.DataMinMax
import KE.SortData
import KE.SortKeyHeap
import KE.KDictKeyed
import PySem.Challenge.RW_tickoff_k01_in_order
set_option Elab.async false
set_option linter.all false
set_option maxRecDepth 100000
set_option autoImplicit false
set_option maxHeartbeats 4000000
/-! Dat: defs over plain data. G is the part of the heap that never changes again; H the heap. -/
open PySem PySem.Spec PyProof.Rows L2
namespace Dat

/-! ### heaps -/
structure Stp (G H G' H' : Hp) : Prop where
  hh : Same H H'
  gg : Same G G'
  gh : Same G' H'
  sep : ∀ a, H a ≠ none → G a = none → G' a = none
theorem Stp.refl {G H : Hp} (h : Same G H) : Stp G H G H := ⟨Same.refl _, Same.refl _, h, fun _ _ e => e⟩
theorem Stp.trans {G H G1 H1 G2 H2 : Hp} (a : Stp G H G1 H1) (b : Stp G1 H1 G2 H2) : Stp G H G2 H2 :=
  ⟨a.hh.trans b.hh, a.gg.trans b.gg, b.gh, fun c n e => b.sep c (fun z => n (a.hh.free z)) (a.sep c n e)⟩
theorem same_new {H : Hp} {p : Addr} {o : HO} (n : H p = none) : Same H (upd H p o) := fun b u e => by
  rw [upd_ne (ne_of_none e n)]; exact e
theorem Stp.new {G H : Hp} {p : Addr} {o : HO} (h : Same G H) (n : H p = none) : Stp G H G (upd H p o) :=
  ⟨same_new n, Same.refl _, h.trans (same_new n), fun _ _ e => e⟩
theorem Stp.frz {G H G' H' : Hp} {p : Addr} {o : HO} (s : Stp G H G' H') (n : H p = none) (g : G' p = none) (e : H' p = some o) : Stp G H (upd G' p o) H' := by
  refine ⟨s.hh, fun a u q => ?_, fun a u q => ?_, fun a hn q => ?_⟩
  · rw [upd_ne (ne_of_none (s.gg a u q) g)]; exact s.gg a u q
  · by_cases h : a = p
    · subst h; rw [upd_same] at q; cases q; exact e
    · rw [upd_ne h] at q; exact s.gh a u q
  · have h : a ≠ p := fun z => hn (by rw [z]; exact n)
    rw [upd_ne h]; exact s.sep a hn q
theorem Stp.newF {G H : Hp} {p : Addr} {o : HO} (h : Same G H) (n : H p = none) : Stp G H (upd G p o) (upd H p o) :=
  (Stp.new h n).frz n (h.free n) upd_same
theorem seqT_same {K : PySem.W.Frag} {H H' : Hp} {a : Addr} {xs : List V} (e : Same H H') (h : SqT K H a xs) : SqT K H' a xs := by
  rcases h with (h | ⟨o, h⟩) | h
  · exact .inl (.inl (e _ _ h))
  · exact .inl (.inr ⟨o, e _ _ h⟩)
  · exact .inr h
mutual
theorem dp_mono {K : PySem.W.Frag} {G H : Hp} (s : Same G H) : ∀ (d : PyData) (v : V), Dp K G v d → Dp K H v d
  | .none, _, h => by cases h; exact .non
  | .bool _, _, h => by cases h; exact .bl _
  | .int _, _, h => by cases h; exact .int _
  | .str _, _, h => by cases h; exact .str _
  | .list ds, _, h => by cases h with | lst a b => exact .lst (s.seq a) (dpAll_mono s ds _ b)
  | .tuple ds, _, h => by cases h with | tup a b => exact .tup (seqT_same s a) (dpAll_mono s ds _ b)
  | .dict _, _, h => by cases h
theorem dpAll_mono {K : PySem.W.Frag} {G H : Hp} (s : Same G H) : ∀ (ds : List PyData) (vs : List V), DpAll K G vs ds → DpAll K H vs ds
  | [], _, h => by cases h; exact .nil
  | d :: ds, _, h => by cases h with | cons a b => exact .cons (dp_mono s d _ a) (dpAll_mono s ds _ b)
end
mutual
theorem dp_plain {K : PySem.W.Frag} {G : Hp} : ∀ (d : PyData) (v : V), Dp K G v d → d.plain = true
  | .none, _, _ => rfl
  | .bool _, _, _ => rfl
  | .int _, _, _ => rfl
  | .str _, _, _ => rfl
  | .list ds, _, h => by cases h with | lst a b => simp only [PyData.plain]; exact dpAll_plain ds _ b
  | .tuple ds, _, h => by cases h with | tup a b => simp only [PyData.plain]; exact dpAll_plain ds _ b
  | .dict _, _, h => by cases h
theorem dpAll_plain {K : PySem.W.Frag} {G : Hp} : ∀ (ds : List PyData) (vs : List V), DpAll K G vs ds → PyData.plainAll ds = true
  | [], _, _ => rfl
  | d :: ds, _, h => by cases h with | cons a b => simp only [PyData.plainAll, dp_plain d _ a, dpAll_plain ds _ b, Bool.and_self]
end
end Dat
namespace L2
theorem DpAll.length {K : PySem.W.Frag} {G : Hp} : ∀ {vs : List V} {ds : List PyData}, DpAll K G vs ds → vs.length = ds.length
  | _, _, .nil => rfl
  | _, _, .cons _ t => by simp only [List.length_cons, DpAll.length t]
theorem DpAll.get {K : PySem.W.Frag} {G : Hp} : ∀ {vs : List V} {ds : List PyData} {i : Nat} {d : PyData}, DpAll K G vs ds → ds[i]? = some d → ∃ v, vs[i]? = some v ∧ Dp K G v d
  | _, _, _, _, .nil, e => by simp at e
  | _, _, 0, _, .cons r _, e => by simp at e; subst e; exact ⟨_, rfl, r⟩
  | _, _, i + 1, _, .cons _ t, e => by
    obtain ⟨v, h1, h2⟩ := DpAll.get (i := i) t (by simpa using e)
    exact ⟨v, by simpa using h1, h2⟩
theorem DpAll.getV {K : PySem.W.Frag} {G : Hp} {vs : List V} {ds : List PyData} {i : Nat} {v : V} (h : DpAll K G vs ds) (e : vs[i]? = some v) : ∃ d, ds[i]? = some d ∧ Dp K G v d := by
  have hl : i < ds.length := by rw [← h.length]; exact (List.getElem?_eq_some_iff.mp e).1
  obtain ⟨v', h1, h2⟩ := h.get (List.getElem?_eq_getElem hl)
  rw [e] at h1; cases h1
  exact ⟨_, List.getElem?_eq_getElem hl, h2⟩
theorem DpAll.append {K : PySem.W.Frag} {G : Hp} : ∀ {vs ws : List V} {ds es : List PyData}, DpAll K G vs ds → DpAll K G ws es → DpAll K G (vs ++ ws) (ds ++ es)
  | _, _, _, _, .nil, s => s
  | _, _, _, _, .cons r t, s => .cons r (DpAll.append t s)
theorem DpAll.take {K : PySem.W.Frag} {G : Hp} : ∀ {vs : List V} {ds : List PyData} (n : Nat), DpAll K G vs ds → DpAll K G (vs.take n) (ds.take n)
  | _, _, 0, _ => .nil
  | _, _, _ + 1, .nil => .nil
  | _, _, n + 1, .cons r t => .cons r (DpAll.take n t)
theorem DpAll.drop {K : PySem.W.Frag} {G : Hp} : ∀ {vs : List V} {ds : List PyData} (n : Nat), DpAll K G vs ds → DpAll K G (vs.drop n) (ds.drop n)
  | _, _, 0, r => r
  | _, _, _ + 1, .nil => .nil
  | _, _, n + 1, .cons _ t => DpAll.drop n t
theorem DpAll.eraseIdx {K : PySem.W.Frag} {G : Hp} : ∀ {vs : List V} {ds : List PyData} (i : Nat), DpAll K G vs ds → DpAll K G (vs.eraseIdx i) (ds.eraseIdx i)
  | _, _, _, .nil => .nil
  | _, _, 0, .cons _ t => t
  | _, _, i + 1, .cons r t => .cons r (DpAll.eraseIdx i t)
theorem DpAll.set {K : PySem.W.Frag} {G : Hp} {v : V} {d : PyData} (r : Dp K G v d) : ∀ {vs : List V} {ds : List PyData} (i : Nat), DpAll K G vs ds → DpAll K G (vs.set i v) (ds.set i d)
  | _, _, _, .nil => .nil
  | _, _, 0, .cons _ t => .cons r t
  | _, _, i + 1, .cons q t => .cons q (DpAll.set r i t)
theorem DpAll.rev {K : PySem.W.Frag} {G : Hp} : ∀ {vs : List V} {ds : List PyData}, DpAll K G vs ds → DpAll K G vs.reverse ds.reverse
  | _, _, .nil => .nil
  | _, _, .cons r t => by rw [List.reverse_cons, List.reverse_cons]; exact (DpAll.rev t).append (.cons r .nil)

end L2
namespace Dat
/-! ### what is read: frozen data, or a list that is the def's own -/
def Bd (K : PySem.W.Frag) (G H : Hp) (v : V) (d : PyData) : Prop :=
  Dp K G v d ∨ ∃ p xs ds, v = .ref p ∧ d = .list ds ∧ H p = some (.lst xs) ∧ G p = none ∧ DpAll K G xs ds
theorem Bd.stp {K : PySem.W.Frag} {G H G' H' : Hp} {v : V} {d : PyData} (b : Bd K G H v d) (s : Stp G H G' H') : Bd K G' H' v d := by
  rcases b with b | ⟨p, xs, ds, e1, e2, e3, e4, e5⟩
  · exact .inl (dp_mono s.gg d v b)
  · exact .inr ⟨p, xs, ds, e1, e2, s.hh _ _ e3, s.sep p (by rw [e3]; exact fun z => nomatch z) e4, dpAll_mono s.gg ds xs e5⟩
theorem Bd.dp {K : PySem.W.Frag} {G H : Hp} {v : V} {d : PyData} (b : Bd K G H v d) (s : Same G H) : Dp K H v d := by
  rcases b with b | ⟨p, xs, ds, rfl, rfl, e3, _, e5⟩
  · exact dp_mono s d v b
  · exact .lst (SqL.of e3) (dpAll_mono s ds xs e5)
theorem Bd.plain {K : PySem.W.Frag} {G H : Hp} {v : V} {d : PyData} (b : Bd K G H v d) (s : Same G H) : d.plain = true := dp_plain d v (b.dp s)
theorem Bd.list {K : PySem.W.Frag} {G H : Hp} {v : V} {ds : List PyData} (b : Bd K G H v (.list ds)) (s : Same G H) : ∃ p xs, v = .ref p ∧ SqL K H p xs ∧ DpAll K G xs ds := by
  rcases b with b | ⟨p, xs, ds', rfl, e2, e3, _, e5⟩
  · cases b with | lst a h => exact ⟨_, _, rfl, s.seq a, h⟩
  · cases e2; exact ⟨p, xs, rfl, SqL.of e3, e5⟩
theorem Bd.tup {K : PySem.W.Frag} {G H : Hp} {v : V} {ds : List PyData} (b : Bd K G H v (.tuple ds)) (s : Same G H) : ∃ p xs, v = .ref p ∧ SqT K H p xs ∧ DpAll K G xs ds := by
  rcases b with b | ⟨p, xs, ds', rfl, e2, e3, _, e5⟩
  · cases b with | tup a h => exact ⟨_, _, rfl, seqT_same s a, h⟩
  · cases e2
theorem Bd.int {K : PySem.W.Frag} {G H : Hp} {v : V} {i : Int} (b : Bd K G H v (.int i)) : v = .int i := by
  rcases b with b | ⟨p, xs, ds', rfl, e2, e3, _, e5⟩
  · cases b; rfl
  · cases e2
theorem Bd.bool {K : PySem.W.Frag} {G H : Hp} {v : V} {i : Bool} (b : Bd K G H v (.bool i)) : v = .bl i := by
  rcases b with b | ⟨p, xs, ds', rfl, e2, e3, _, e5⟩
  · cases b; rfl
  · cases e2
theorem Bd.str {K : PySem.W.Frag} {G H : Hp} {v : V} {i : Str} (b : Bd K G H v (.str i)) : v = .str i := by
  rcases b with b | ⟨p, xs, ds', rfl, e2, e3, _, e5⟩
  · cases b; rfl
  · cases e2
inductive BdAll (K : PySem.W.Frag) (G H : Hp) : List V → List PyData → Prop
  | nil : BdAll K G H [] []
  | cons {v : V} {vs : List V} {d : PyData} {ds : List PyData} : Bd K G H v d → BdAll K G H vs ds → BdAll K G H (v :: vs) (d :: ds)
theorem BdAll.stp {K : PySem.W.Frag} {G H G' H' : Hp} {vs : List V} {ds : List PyData} (b : BdAll K G H vs ds) (s : Stp G H G' H') : BdAll K G' H' vs ds := by
  induction b with
  | nil => exact .nil
  | cons a _ ih => exact .cons (a.stp s) ih
theorem dpAll_bd {K : PySem.W.Frag} {G H : Hp} : ∀ {vs : List V} {ds : List PyData}, DpAll K G vs ds → BdAll K G H vs ds
  | _, _, .nil => .nil
  | _, _, .cons r t => .cons (.inl r) (dpAll_bd t)

/-! ### a def's slots -/
/-- the data in a def's slots (none: nothing there, or nothing known) -/
abbrev Dv := List (Option PyData)
def dvGet (ρ : Dv) (i : Nat) : Option PyData := (ρ[i]?).join
structure Rep (K : PySem.W.Frag) (H0 G0 G H : Hp) (O : List Nat) (σ : L2.St) (ρ : Dv) : Prop where
  base : Stp G0 H0 G H
  len : σ.length = ρ.length
  fz : ∀ (i : Nat) (d : PyData), i ∉ O → ρ[i]? = some (some d) → ∃ v, σ[i]? = some (some v) ∧ Dp K G v d
  ow : ∀ (i : Nat) (d : PyData), i ∈ O → ρ[i]? = some (some d) → ∃ p xs ds, d = .list ds ∧ σ[i]? = some (some (.ref p)) ∧ H0 p = none ∧ G p = none ∧ H p = some (.lst xs) ∧ DpAll K G xs ds
  inj : ∀ (i j : Nat) (p : Addr), i ∈ O → j ∈ O → σ[i]? = some (some (.ref p)) → σ[j]? = some (some (.ref p)) → ρ[i]? ≠ some none → ρ[j]? ≠ some none → i = j
section
variable {K : PySem.W.Frag} {H0 G0 G H G' H' : Hp} {O : List Nat} {σ : L2.St} {ρ : Dv}
theorem Rep.gh (R : Rep K H0 G0 G H O σ ρ) : Same G H := R.base.gh
theorem Rep.stp (R : Rep K H0 G0 G H O σ ρ) (s : Stp G H G' H') : Rep K H0 G0 G' H' O σ ρ := by
  refine ⟨R.base.trans s, R.len, fun i d hi e => ?_, fun i d hi e => ?_, R.inj⟩
  · obtain ⟨v, h1, h2⟩ := R.fz i d hi e
    exact ⟨v, h1, dp_mono s.gg d v h2⟩
  · obtain ⟨p, xs, ds, e1, e2, e3, e4, e5, e6⟩ := R.ow i d hi e
    exact ⟨p, xs, ds, e1, e2, e3, s.sep p (by rw [e5]; exact fun z => nomatch z) e4, s.hh _ _ e5, dpAll_mono s.gg ds xs e6⟩
theorem dvGet_some {i : Nat} {d : PyData} (h : dvGet ρ i = some d) : ρ[i]? = some (some d) := by
  unfold dvGet at h
  cases q : ρ[i]? with
  | none => rw [q] at h; cases h
  | some x => rw [q] at h; cases x with
    | none => cases h
    | some y => cases h; rfl
theorem Rep.bd (R : Rep K H0 G0 G H O σ ρ) {i : Nat} {d : PyData} (h : dvGet ρ i = some d) : ∃ v, σ[i]? = some (some v) ∧ Bd K G H v d := by
  have e := dvGet_some h
  by_cases hi : i ∈ O
  · obtain ⟨p, xs, ds, e1, e2, e3, e4, e5, e6⟩ := R.ow i d hi e
    exact ⟨_, e2, .inr ⟨p, xs, ds, rfl, e1, e5, e4, e6⟩⟩
  · obtain ⟨v, h1, h2⟩ := R.fz i d hi e
    exact ⟨v, h1, .inl h2⟩
theorem Rep.dp (R : Rep K H0 G0 G H O σ ρ) {i : Nat} {d : PyData} (hi : i ∉ O) (h : dvGet ρ i = some d) : ∃ v, σ[i]? = some (some v) ∧ Dp K G v d := R.fz i d hi (dvGet_some h)
/-- a slot's list is frozen -/
theorem Rep.freeze (R : Rep K H0 G0 G H O σ ρ) (i : Nat) : ∃ G', Same G G' ∧ Rep K H0 G0 G' H (O.filter (fun j => j != i)) σ ρ := by
  have hO : ∀ j, j ∈ O.filter (fun j => j != i) ↔ j ∈ O ∧ j ≠ i := fun j => by simp [List.mem_filter]
  have easy : (∀ d, i ∈ O → ρ[i]? ≠ some (some d)) → ∃ G', Same G G' ∧ Rep K H0 G0 G' H (O.filter (fun j => j != i)) σ ρ := fun no => by
    refine ⟨G, Same.refl _, R.base, R.len, fun j d hj e => R.fz j d (fun z => hj ((hO j).mpr ⟨z, fun y => ?_⟩)) e, fun j d hj e => R.ow j d ((hO j).mp hj).1 e, fun a b p ha hb => R.inj a b p ((hO a).mp ha).1 ((hO b).mp hb).1⟩
    subst y
    exact no d z e
  by_cases hi : i ∈ O
  · by_cases hd : ∃ d, ρ[i]? = some (some d)
    · obtain ⟨d, q⟩ := hd
      obtain ⟨p, xs, ds, e1, e2, e3, e4, e5, e6⟩ := R.ow i d hi q
      have gg : Same G (upd G p (.lst xs)) := fun a u z => by rw [upd_ne (ne_of_none z e4)]; exact z
      have gh : Same (upd G p (.lst xs)) H := fun a u z => by
        by_cases h : a = p
        · subst h; rw [upd_same] at z; cases z; exact e5
        · rw [upd_ne h] at z; exact R.gh a u z
      refine ⟨_, gg, ⟨R.base.hh, R.base.gg.trans gg, gh, fun a hn z => ?_⟩, R.len, fun j d' hj e => ?_, fun j d' hj e => ?_, fun a b p' ha hb => R.inj a b p' ((hO a).mp ha).1 ((hO b).mp hb).1⟩
      · rw [upd_ne (fun y => hn (by rw [y]; exact e3))]
        exact R.base.sep a hn z
      · by_cases hji : j = i
        · subst hji
          rw [q] at e; cases e; subst e1
          exact ⟨_, e2, .lst (SqL.of upd_same) (dpAll_mono gg ds xs e6)⟩
        · obtain ⟨v, h1, h2⟩ := R.fz j d' (fun z => hj ((hO j).mpr ⟨z, hji⟩)) e
          exact ⟨v, h1, dp_mono gg d' v h2⟩
      · obtain ⟨hj1, hj2⟩ := (hO j).mp hj
        obtain ⟨p', xs', ds', f1, f2, f3, f4, f5, f6⟩ := R.ow j d' hj1 e
        have hne : p' ≠ p := fun z => hj2 (R.inj j i p hj1 hi (by rw [← z]; exact f2) e2 (by rw [e]; simp) (by rw [q]; simp))
        exact ⟨p', xs', ds', f1, f2, f3, by rw [upd_ne hne]; exact f4, f5, dpAll_mono gg ds' xs' f6⟩
    · exact easy fun d _ e => hd ⟨d, e⟩
  · exact easy fun d z => absurd z hi
end
end Dat
open PySem PySem.Spec PyProof.Rows L2
namespace Dat

/-! ### readings over data -/
abbrev Fd := Dv → Option PyData
abbrev Fl := Dv → Option (List PyData)
/-- frozen data -/
def RD (K : PySem.W.Frag) (O : List Nat) (F : Fd) : TE := fun σ H Q => ∃ H0 G0 G ρ d, Rep K H0 G0 G H O σ ρ ∧ F ρ = some d ∧ ∀ v G' H', Stp G H G' H' → Dp K G' v d → Q v H'
/-- data, or a list of the def's own, looked at -/
def RB (K : PySem.W.Frag) (O : List Nat) (F : Fd) : TE := fun σ H Q => ∃ H0 G0 G ρ d, Rep K H0 G0 G H O σ ρ ∧ F ρ = some d ∧ ∀ v G' H', Stp G H G' H' → Bd K G' H' v d → Q v H'
/-- a new list -/
def RO (K : PySem.W.Frag) (O : List Nat) (F : Fl) : TE := fun σ H Q => ∃ H0 G0 G ρ ds, Rep K H0 G0 G H O σ ρ ∧ F ρ = some ds ∧
  ∀ p xs G' H', Stp G H G' H' → H p = none → G' p = none → H' p = some (.lst xs) → DpAll K G' xs ds → Q (.ref p) H'
/-- a test -/
def RT (K : PySem.W.Frag) (O : List Nat) (C : Dv → Option Bool) : TT := fun σ H Q => ∃ H0 G0 G ρ b, Rep K H0 G0 G H O σ ρ ∧ C ρ = some b ∧ ∀ G' H', Stp G H G' H' → Q b H'
/-- arguments: frozen; looked at -/
def RA (K : PySem.W.Frag) (O : List Nat) (F : Fl) : TA := fun σ H Q => ∃ H0 G0 G ρ ds, Rep K H0 G0 G H O σ ρ ∧ F ρ = some ds ∧ ∀ vs G' H', Stp G H G' H' → DpAll K G' vs ds → Q vs H'
def RAb (K : PySem.W.Frag) (O : List Nat) (F : Fl) : TA := fun σ H Q => ∃ H0 G0 G ρ ds, Rep K H0 G0 G H O σ ρ ∧ F ρ = some ds ∧ ∀ vs G' H', Stp G H G' H' → BdAll K G' H' vs ds → Q vs H'

section
variable {X : Cx} {e a b : Expr} {pos : Pos} {O : List Nat} {F F' : Fd} {L : Fl}
theorem pe_imp {t t' : TE} (h : PE X e t) (w : ∀ σ H Q, t' σ H Q → t σ H Q) : PE X e t' := ⟨fun pins s σ H Q I q => h.run pins s σ H Q I (w _ _ _ q)⟩
theorem pt_imp {t t' : TT} (h : PT X e t) (w : ∀ σ H Q, t' σ H Q → t σ H Q) : PT X e t' := ⟨fun pins s σ H Q I q => h.run pins s σ H Q I (w _ _ _ q)⟩
theorem pa_imp {es : List Expr} {t t' : TA} (h : PA X es t) (w : ∀ σ H Q, t' σ H Q → t σ H Q) : PA X es t' := ⟨fun ps pins s σ H Q I q => h.run ps pins s σ H Q I (w _ _ _ q)⟩
/-- frozen data may be looked at -/
theorem d_b (h : PE X e (RD X.K O F)) : PE X e (RB X.K O F) := pe_imp h fun σ H Q ⟨H0, G0, G, ρ, d, R, ef, q⟩ => ⟨H0, G0, G, ρ, d, R, ef, fun v G' H' s dv => q v G' H' s (.inl dv)⟩
/-- a new list is frozen -/
def lstF (L : Fl) : Fd := fun ρ => (L ρ).map .list
theorem o_d (h : PE X e (RO X.K O L)) : PE X e (RD X.K O (lstF L)) := pe_imp h fun σ H Q ⟨H0, G0, G, ρ, d, R, ef, q⟩ => by
  unfold lstF at ef
  cases el : L ρ with
  | none => rw [el] at ef; cases ef
  | some ds =>
    rw [el] at ef
    cases ef
    refine ⟨H0, G0, G, ρ, ds, R, el, fun p xs G' H' s n g hp dv => q (.ref p) (upd G' p (.lst xs)) H' (s.frz n g hp) (.lst (SqL.of upd_same) (dpAll_mono (fun a u z => ?_) ds xs dv))⟩
    rw [upd_ne (ne_of_none z g)]; exact z
theorem o_b (h : PE X e (RO X.K O L)) : PE X e (RB X.K O (lstF L)) := d_b (o_d h)

/-! ### names, constants -/
def vF (i : Nat) : Fd := fun ρ => dvGet ρ i
theorem b_var (i : Nat) (h : PE X e (tVar i)) : PE X e (RB X.K O (vF i)) := pe_imp h fun σ H Q ⟨H0, G0, G, ρ, d, R, ef, q⟩ => by
  obtain ⟨v, h1, h2⟩ := R.bd (i := i) ef
  exact ⟨v, h1, q v G H (Stp.refl R.gh) h2⟩
theorem d_var (i : Nat) (h : PE X e (tVar i)) (hi : i ∉ O) : PE X e (RD X.K O (vF i)) := pe_imp h fun σ H Q ⟨H0, G0, G, ρ, d, R, ef, q⟩ => by
  obtain ⟨v, h1, h2⟩ := R.dp hi ef
  exact ⟨v, h1, q v G H (Stp.refl R.gh) h2⟩
def cF (d : PyData) : Fd := fun _ => some d
theorem d_int {i : Int} {j : Nat} : PE X (.Constant (.int i) j pos) (RD X.K O (cF (.int i))) := pe_imp pe_int fun σ H Q ⟨H0, G0, G, ρ, d, R, ef, q⟩ => by
  cases ef; exact q _ G H (Stp.refl R.gh) (.int i)
theorem d_str {x : Str} {j : Nat} : PE X (.Constant (.str x) j pos) (RD X.K O (cF (.str x))) := pe_imp pe_str fun σ H Q ⟨H0, G0, G, ρ, d, R, ef, q⟩ => by
  cases ef; exact q _ G H (Stp.refl R.gh) (.str x)
theorem d_bl {x : Bool} {j : Nat} : PE X (.Constant (.bool x) j pos) (RD X.K O (cF (.bool x))) := pe_imp pe_bl fun σ H Q ⟨H0, G0, G, ρ, d, R, ef, q⟩ => by
  cases ef; exact q _ G H (Stp.refl R.gh) (.bl x)
theorem d_non {j : Nat} : PE X (.Constant .none j pos) (RD X.K O (cF .none)) := pe_imp pe_non fun σ H Q ⟨H0, G0, G, ρ, d, R, ef, q⟩ => by
  cases ef; exact q _ G H (Stp.refl R.gh) .non

/-! ### two-place operations -/
def f2 (g : PyData → PyData → Option PyData) (F F' : Fd) : Fd := fun ρ => (F ρ).bind fun x => (F' ρ).bind fun y => g x y
theorem f2_some {g : PyData → PyData → Option PyData} {ρ : Dv} {d : PyData} (h : f2 g F F' ρ = some d) : ∃ x y, F ρ = some x ∧ F' ρ = some y ∧ g x y = some d := by
  unfold f2 at h
  cases e1 : F ρ with
  | none => rw [e1] at h; cases h
  | some x =>
    cases e2 : F' ρ with
    | none => rw [e1, e2] at h; cases h
    | some y => rw [e1, e2] at h; exact ⟨x, y, rfl, rfl, h⟩
def r2D (K : PySem.W.Frag) (g : PyData → PyData → Option PyData) : R2 := fun x y H Q => ∃ G dx dy d, Same G H ∧ Bd K G H x dx ∧ Bd K G H y dy ∧ g dx dy = some d ∧ ∀ v G' H', Stp G H G' H' → Dp K G' v d → Q v H'
theorem top_imp {g : PyData → PyData → Option PyData} {σ : L2.St} {H : Hp} {Q : VK} (h : RD X.K O (f2 g F F') σ H Q) : tOp (r2D X.K g) (RB X.K O F) (RB X.K O F') σ H Q := by
  obtain ⟨H0, G0, G, ρ, d, R, ef, q⟩ := h
  obtain ⟨dx, dy, e1, e2, e3⟩ := f2_some ef
  refine ⟨H0, G0, G, ρ, dx, R, e1, fun x G1 H1 s1 bx => ⟨H0, G0, G1, ρ, dy, R.stp s1, e2, fun y G2 H2 s2 y2 => ⟨G2, dx, dy, d, s2.gh, bx.stp s2, y2, e3, fun v G' H' s3 dv => q v G' H' ((s1.trans s2).trans s3) dv⟩⟩⟩
theorem d_op {op : Operator} {g : PyData → PyData → Option PyData} (ho : OpR X (binaryOp op) (r2D X.K g)) (ha : PE X a (RB X.K O F)) (hb : PE X b (RB X.K O F')) : PE X (.BinOp a op b pos) (RD X.K O (f2 g F F')) :=
  pe_imp (pe_op ho ha hb) fun σ H Q h => top_imp h
theorem d_cmp {op : CmpOp} {g : PyData → PyData → Option PyData} (ho : OpR X (compareOp op) (r2D X.K g)) (ha : PE X a (RB X.K O F)) (hb : PE X b (RB X.K O F')) (hm : behindInMarks op b = false) : PE X (.Compare a [op] [b] pos) (RD X.K O (f2 g F F')) :=
  pe_imp (pe_cmpR ho ha hb hm) fun σ H Q h => top_imp h
/-- data that must be a truth value -/
def asB (F : Fd) : Dv → Option Bool := fun ρ => (F ρ).bind fun d => match d with | .bool b => some b | _ => none
theorem asB_some {ρ : Dv} {b : Bool} (h : asB F ρ = some b) : F ρ = some (.bool b) := by
  unfold asB at h
  cases e : F ρ with
  | none => rw [e] at h; cases h
  | some d =>
    rw [e] at h
    cases d with
    | bool c => cases h; rfl
    | none => cases h
    | int _ => cases h
    | str _ => cases h
    | list _ => cases h
    | tuple _ => cases h
    | dict _ => cases h
theorem rd_test {t : TE} {σ : L2.St} {H : Hp} {Q : Bool → Hp → Prop} (w : ∀ Q', RD X.K O F σ H Q' → t σ H Q') (h : RT X.K O (asB F) σ H Q) : t σ H fun x H' => ∃ k, x = .bl k ∧ Q k H' := by
  obtain ⟨H0, G0, G, ρ, b, R, eb, q⟩ := h
  refine w _ ⟨H0, G0, G, ρ, .bool b, R, asB_some eb, fun v G' H' s dv => ?_⟩
  cases dv
  exact ⟨b, rfl, q G' H' s⟩
theorem t_cmp {op : CmpOp} {g : PyData → PyData → Option PyData} (ho : OpR X (compareOp op) (r2D X.K g)) (ha : PE X a (RB X.K O F)) (hb : PE X b (RB X.K O F')) (hm : behindInMarks op b = false) : PT X (.Compare a [op] [b] pos) (RT X.K O (asB (f2 g F F'))) :=
  pt_imp (pt_cmpR ho ha hb hm) fun σ H Q h => rd_test (fun Q' h' => top_imp h') h
/-- a bool's value as a test -/
theorem t_val (h : PE X e (RD X.K O F)) (he : ∀ whole, isTrue e X.env whole = (do let v ← whole; standAt e.pos; holding [v] (truthy v)) := by intro _; rfl) : PT X e (RT X.K O (asB F)) :=
  pt_imp (pt_val h he) fun σ H Q h' => rd_test (fun Q' h'' => h'') h'
/-- chains -/
def chF (g g' : PyData → PyData → Option PyData) (F F' F'' : Fd) : Fd := fun ρ => match f2 g F F' ρ with
  | some (.bool true) => f2 g' F' F'' ρ
  | some (.bool false) => some (.bool false)
  | _ => none
theorem chain_imp {c : Expr} {F'' : Fd} {g g' : PyData → PyData → Option PyData} {σ : L2.St} {H : Hp} {Q : VK} (h : RD X.K O (chF g g' F F' F'') σ H Q) : tChain (r2D X.K g) (r2D X.K g') (RB X.K O F) (RB X.K O F') (RB X.K O F'') σ H Q := by
  obtain ⟨H0, G0, G, ρ, d, R, ef, q⟩ := h
  unfold chF at ef
  have hb : ∃ k, f2 g F F' ρ = some (.bool k) := by
    cases e : f2 g F F' ρ with
    | none => rw [e] at ef; cases ef
    | some z =>
      rw [e] at ef
      cases z with
      | bool k => exact ⟨k, rfl⟩
      | none => cases ef
      | int _ => cases ef
      | str _ => cases ef
      | list _ => cases ef
      | tuple _ => cases ef
      | dict _ => cases ef
  obtain ⟨k, ek⟩ := hb
  rw [ek] at ef
  obtain ⟨dx, dy, e1, e2, e3⟩ := f2_some ek
  refine ⟨H0, G0, G, ρ, dx, R, e1, fun x G1 H1 s1 bx => ⟨H0, G0, G1, ρ, dy, R.stp s1, e2, fun y G2 H2 s2 y2 => ⟨G2, dx, dy, _, s2.gh, bx.stp s2, y2, e3, fun v G3 H3 s3 dv => ?_⟩⟩⟩
  cases dv
  refine ⟨k, rfl, ?_⟩
  cases k with
  | false =>
    rw [if_neg Bool.false_ne_true]
    have ed : d = .bool false := (Option.some.inj ef).symm
    subst ed
    exact q _ G3 H3 ((s1.trans s2).trans s3) (.bl false)
  | true =>
    rw [if_pos rfl]
    obtain ⟨dy', dz, f1, f2', f3⟩ := f2_some (show f2 g' F' F'' ρ = some d from ef)
    rw [e2] at f1; cases f1
    refine ⟨H0, G0, G3, ρ, dz, ((R.stp s1).stp s2).stp s3, f2', fun z G4 H4 s4 bz => ⟨G4, dy, dz, d, s4.gh, (y2.stp s3).stp s4, bz, f3, fun v G' H' s5 dv => q v G' H' ((((s1.trans s2).trans s3).trans s4).trans s5) dv⟩⟩
theorem d_chain {c : Expr} {F'' : Fd} {op op' : CmpOp} {g g' : PyData → PyData → Option PyData} (ho : OpR X (compareOp op) (r2D X.K g)) (ho' : OpR X (compareOp op') (r2D X.K g')) (ha : PE X a (RB X.K O F)) (hb : PE X b (RB X.K O F')) (hc : PE X c (RB X.K O F''))
    (hm : lastMarks [op, op'] [b, c] = false := by with_unfolding_all rfl) : PE X (.Compare a [op, op'] [b, c] pos) (RD X.K O (chF g g' F F' F'')) :=
  pe_imp (pe_chain ho ho' ha hb hc hm) fun σ H Q h => chain_imp (c := c) h
theorem t_chain {c : Expr} {F'' : Fd} {op op' : CmpOp} {g g' : PyData → PyData → Option PyData} (ho : OpR X (compareOp op) (r2D X.K g)) (ho' : OpR X (compareOp op') (r2D X.K g')) (ha : PE X a (RB X.K O F)) (hb : PE X b (RB X.K O F')) (hc : PE X c (RB X.K O F''))
    (hm : lastMarks [op, op'] [b, c] = false := by with_unfolding_all rfl) : PT X (.Compare a [op, op'] [b, c] pos) (RT X.K O (asB (chF g g' F F' F''))) :=
  pt_imp (pt_chain ho ho' ha hb hc hm) fun σ H Q h => rd_test (fun Q' h' => chain_imp (c := c) h') h

/-! ### and, or, not; a if c else b -/
variable {C C' : Dv → Option Bool} {rest : List Expr}
def notT (C : Dv → Option Bool) : Dv → Option Bool := fun ρ => (C ρ).map (!·)
def andT (C C' : Dv → Option Bool) : Dv → Option Bool := fun ρ => match C ρ with | some true => C' ρ | some false => some false | none => none
def orT (C C' : Dv → Option Bool) : Dv → Option Bool := fun ρ => match C ρ with | some true => some true | some false => C' ρ | none => none
theorem t_not (h : PT X a (RT X.K O C)) : PT X (.UnaryOp .Not a pos) (RT X.K O (notT C)) := pt_imp (pt_not h) fun σ H Q ⟨H0, G0, G, ρ, b, R, eb, q⟩ => by
  unfold notT at eb
  cases e : C ρ with
  | none => rw [e] at eb; cases eb
  | some k => rw [e] at eb; cases eb; exact ⟨H0, G0, G, ρ, k, R, e, fun G' H' s => q G' H' s⟩
structure WT (X : Cx) (e : Expr) (t : TT) : Prop where
  pw : PW X e t
theorem WT.imp {t t' : TT} (h : WT X e t) (w : ∀ σ H Q, t' σ H Q → t σ H Q) : WT X e t' := ⟨⟨fun wh pins s σ H Q I q => h.pw.run wh pins s σ H Q I (w _ _ _ q)⟩⟩
theorem w_and1 (h : PT X a (RT X.K O C)) : WT X (.BoolOp .And [a] pos) (RT X.K O C) := ⟨pw_and1 h⟩
theorem w_or1 (h : PT X a (RT X.K O C)) : WT X (.BoolOp .Or [a] pos) (RT X.K O C) := ⟨pw_or1 h⟩
theorem w_and (h : PT X a (RT X.K O C)) (h' : WT X (.BoolOp .And (b :: rest) pos) (RT X.K O C')) : WT X (.BoolOp .And (a :: b :: rest) pos) (RT X.K O (andT C C')) :=
  WT.imp ⟨pw_and h h'.pw⟩ fun σ H Q ⟨H0, G0, G, ρ, k, R, eb, q⟩ => by
    unfold andT at eb
    cases e : C ρ with
    | none => rw [e] at eb; cases eb
    | some c =>
      rw [e] at eb
      cases c with
      | false => cases eb; exact ⟨H0, G0, G, ρ, false, R, e, fun G' H' s => iteF (q G' H' s)⟩
      | true => exact ⟨H0, G0, G, ρ, true, R, e, fun G1 H1 s1 => iteT (⟨H0, G0, G1, ρ, k, R.stp s1, eb, fun G' H' s => q G' H' (s1.trans s)⟩)⟩
theorem w_or (h : PT X a (RT X.K O C)) (h' : WT X (.BoolOp .Or (b :: rest) pos) (RT X.K O C')) : WT X (.BoolOp .Or (a :: b :: rest) pos) (RT X.K O (orT C C')) :=
  WT.imp ⟨pw_or h h'.pw⟩ fun σ H Q ⟨H0, G0, G, ρ, k, R, eb, q⟩ => by
    unfold orT at eb
    cases e : C ρ with
    | none => rw [e] at eb; cases eb
    | some c =>
      rw [e] at eb
      cases c with
      | true => cases eb; exact ⟨H0, G0, G, ρ, true, R, e, fun G' H' s => iteT (q G' H' s)⟩
      | false => exact ⟨H0, G0, G, ρ, false, R, e, fun G1 H1 s1 => iteF (⟨H0, G0, G1, ρ, k, R.stp s1, eb, fun G' H' s => q G' H' (s1.trans s)⟩)⟩
theorem t_w (h : WT X e (RT X.K O C)) : PT X e (RT X.K O C) := h.pw.pt
/-- .. as values -/
def blF (C : Dv → Option Bool) : Fd := fun ρ => (C ρ).map .bool
theorem blF_some {ρ : Dv} {d : PyData} (h : blF C ρ = some d) : ∃ b, C ρ = some b ∧ d = .bool b := by
  unfold blF at h
  cases e : C ρ with
  | none => rw [e] at h; cases h
  | some b => rw [e] at h; cases h; exact ⟨b, rfl, rfl⟩
theorem d_not (h : PE X a (RD X.K O F)) : PE X (.UnaryOp .Not a pos) (RD X.K O (blF (notT (asB F)))) := pe_imp (pe_not h) fun σ H Q ⟨H0, G0, G, ρ, d, R, ef, q⟩ => by
  obtain ⟨b, eb, rfl⟩ := blF_some ef
  unfold notT at eb
  cases e : asB F ρ with
  | none => rw [e] at eb; cases eb
  | some k =>
    rw [e] at eb; cases eb
    refine ⟨H0, G0, G, ρ, .bool k, R, asB_some e, fun v G' H' s dv => ?_⟩
    cases dv
    exact ⟨k, rfl, q _ G' H' s (.bl _)⟩
theorem d_one {op : BoolOp} (h : PE X a (RD X.K O F)) : PE X (.BoolOp op [a] pos) (RD X.K O F) := pe_one h
/-- the first of two operands is a truth value; the last may be anything -/
def andF (F F' : Fd) : Fd := fun ρ => match F ρ with | some (.bool true) => F' ρ | some (.bool false) => some (.bool false) | _ => none
def orF (F F' : Fd) : Fd := fun ρ => match F ρ with | some (.bool true) => some (.bool true) | some (.bool false) => F' ρ | _ => none
theorem boolOf {x : Option PyData} {y : PyData} {f g : Option PyData} (h : (match x with | some (.bool true) => f | some (.bool false) => g | _ => none) = some y) : (x = some (.bool true) ∧ f = some y) ∨ (x = some (.bool false) ∧ g = some y) := by
  cases x with
  | none => cases h
  | some z =>
    cases z with
    | bool k => cases k with
      | true => exact .inl ⟨rfl, h⟩
      | false => exact .inr ⟨rfl, h⟩
    | none => cases h
    | int _ => cases h
    | str _ => cases h
    | list _ => cases h
    | tuple _ => cases h
    | dict _ => cases h
theorem d_and (h : PE X a (RD X.K O F)) (h' : PE X (.BoolOp .And (b :: rest) pos) (RD X.K O F')) : PE X (.BoolOp .And (a :: b :: rest) pos) (RD X.K O (andF F F')) :=
  pe_imp (pe_and h h') fun σ H Q ⟨H0, G0, G, ρ, d, R, ef, q⟩ => by
    rcases boolOf ef with ⟨e1, e2⟩ | ⟨e1, e2⟩
    · exact ⟨H0, G0, G, ρ, _, R, e1, fun v G1 H1 s1 dv => by cases dv; exact ⟨true, rfl, iteT (⟨H0, G0, G1, ρ, d, R.stp s1, e2, fun v G' H' s dv => q v G' H' (s1.trans s) dv⟩)⟩⟩
    · cases e2; exact ⟨H0, G0, G, ρ, _, R, e1, fun v G1 H1 s1 dv => by cases dv; exact ⟨false, rfl, iteF (q _ G1 H1 s1 (.bl false))⟩⟩
theorem d_or (h : PE X a (RD X.K O F)) (h' : PE X (.BoolOp .Or (b :: rest) pos) (RD X.K O F')) : PE X (.BoolOp .Or (a :: b :: rest) pos) (RD X.K O (orF F F')) :=
  pe_imp (pe_or h h') fun σ H Q ⟨H0, G0, G, ρ, d, R, ef, q⟩ => by
    rcases boolOf ef with ⟨e1, e2⟩ | ⟨e1, e2⟩
    · cases e2; exact ⟨H0, G0, G, ρ, _, R, e1, fun v G1 H1 s1 dv => by cases dv; exact ⟨true, rfl, iteT (q _ G1 H1 s1 (.bl true))⟩⟩
    · exact ⟨H0, G0, G, ρ, _, R, e1, fun v G1 H1 s1 dv => by cases dv; exact ⟨false, rfl, iteF (⟨H0, G0, G1, ρ, d, R.stp s1, e2, fun v G' H' s dv => q v G' H' (s1.trans s) dv⟩)⟩⟩
def ifF (C : Dv → Option Bool) (F F' : Fd) : Fd := fun ρ => match C ρ with | some true => F ρ | some false => F' ρ | none => none
theorem d_ifExp {c : Expr} (hc : PT X c (RT X.K O C)) (h : PE X a (RD X.K O F)) (h' : PE X b (RD X.K O F')) : PE X (.IfExp c a b pos) (RD X.K O (ifF C F F')) :=
  pe_imp (pe_ifExp hc h h') fun σ H Q ⟨H0, G0, G, ρ, d, R, ef, q⟩ => by
    unfold ifF at ef
    cases e : C ρ with
    | none => rw [e] at ef; cases ef
    | some k =>
      rw [e] at ef
      cases k with
      | true => exact ⟨H0, G0, G, ρ, true, R, e, fun G1 H1 s1 => iteT (⟨H0, G0, G1, ρ, d, R.stp s1, ef, fun v G' H' s dv => q v G' H' (s1.trans s) dv⟩)⟩
      | false => exact ⟨H0, G0, G, ρ, false, R, e, fun G1 H1 s1 => iteF (⟨H0, G0, G1, ρ, d, R.stp s1, ef, fun v G' H' s dv => q v G' H' (s1.trans s) dv⟩)⟩

/-! ### argument lists, tuples, lists written -/
variable {es : List Expr}
def nilA : Fl := fun _ => some []
def consA (F : Fd) (L : Fl) : Fl := fun ρ => (F ρ).bind fun d => (L ρ).map fun ds => d :: ds
theorem consA_some {ρ : Dv} {ds : List PyData} (h : consA F L ρ = some ds) : ∃ d r, F ρ = some d ∧ L ρ = some r ∧ ds = d :: r := by
  unfold consA at h
  cases e1 : F ρ with
  | none => rw [e1] at h; cases h
  | some d =>
    cases e2 : L ρ with
    | none => rw [e1, e2] at h; cases h
    | some r => rw [e1, e2] at h; cases h; exact ⟨d, r, rfl, rfl, rfl⟩
theorem a_nil : PA X [] (RA X.K O nilA) := pa_imp pa_nil fun σ H Q ⟨H0, G0, G, ρ, ds, R, ef, q⟩ => by cases ef; exact q [] G H (Stp.refl R.gh) .nil
theorem a_cons (h : PE X e (RD X.K O F)) (h' : PA X es (RA X.K O L)) (hs : starEach (e :: es) X.env = (false, eval e X.env) :: starEach es X.env := by rfl) : PA X (e :: es) (RA X.K O (consA F L)) :=
  pa_imp (pa_cons h h' hs) fun σ H Q ⟨H0, G0, G, ρ, ds, R, ef, q⟩ => by
    obtain ⟨d, r, e1, e2, rfl⟩ := consA_some ef
    exact ⟨H0, G0, G, ρ, d, R, e1, fun v G1 H1 s1 dv => ⟨H0, G0, G1, ρ, r, R.stp s1, e2, fun vs G' H' s da => q (v :: vs) G' H' (s1.trans s) (.cons (dp_mono s.gg _ _ dv) da)⟩⟩
theorem ab_nil : PA X [] (RAb X.K O nilA) := pa_imp pa_nil fun σ H Q ⟨H0, G0, G, ρ, ds, R, ef, q⟩ => by cases ef; exact q [] G H (Stp.refl R.gh) .nil
theorem ab_cons (h : PE X e (RB X.K O F)) (h' : PA X es (RAb X.K O L)) (hs : starEach (e :: es) X.env = (false, eval e X.env) :: starEach es X.env := by rfl) : PA X (e :: es) (RAb X.K O (consA F L)) :=
  pa_imp (pa_cons h h' hs) fun σ H Q ⟨H0, G0, G, ρ, ds, R, ef, q⟩ => by
    obtain ⟨d, r, e1, e2, rfl⟩ := consA_some ef
    exact ⟨H0, G0, G, ρ, d, R, e1, fun v G1 H1 s1 dv => ⟨H0, G0, G1, ρ, r, R.stp s1, e2, fun vs G' H' s da => q (v :: vs) G' H' (s1.trans s) (.cons (dv.stp s) da)⟩⟩
/-- a displayed tuple or list has few items -/
def few (L : Fl) : Fl := fun ρ => (L ρ).bind fun ds => if ds.length ≤ 1000 then some ds else none
theorem few_some {ρ : Dv} {ds : List PyData} (h : few L ρ = some ds) : L ρ = some ds ∧ ds.length ≤ 1000 := by
  unfold few at h
  cases e : L ρ with
  | none => rw [e] at h; cases h
  | some r =>
    rw [e] at h
    by_cases hl : r.length ≤ 1000
    · have h' : (if r.length ≤ 1000 then some r else none) = some ds := h
      rw [if_pos hl] at h'; cases h'; exact ⟨rfl, hl⟩
    · have h' : (if r.length ≤ 1000 then some r else none) = some ds := h
      rw [if_neg hl] at h'; cases h'
def tupF (L : Fl) : Fd := fun ρ => (few L ρ).map .tuple
theorem d_tup {k : Nat} (h : PA X es (RA X.K O L)) : PE X (.Tuple es k pos) (RD X.K O (tupF L)) := pe_imp (pe_tup h) fun σ H Q ⟨H0, G0, G, ρ, d, R, ef, q⟩ => by
  unfold tupF at ef
  cases e : few L ρ with
  | none => rw [e] at ef; cases ef
  | some ds =>
    rw [e] at ef; cases ef
    obtain ⟨e1, hl⟩ := few_some e
    refine ⟨H0, G0, G, ρ, ds, R, e1, fun vs G1 H1 s1 da => ⟨by rw [da.length]; exact Nat.le_of_lt (small1000 hl), fun p hp => ?_⟩⟩
    have sg := Stp.newF (p := p) (o := .tup vs) s1.gh hp
    exact q _ _ _ (s1.trans sg) (.tup (SqT.of upd_same) (dpAll_mono sg.gg ds vs da))
theorem o_lst (h : PA X es (RA X.K O L)) : PE X (.List es pos) (RO X.K O (few L)) := pe_imp (pe_lst h) fun σ H Q ⟨H0, G0, G, ρ, ds, R, ef, q⟩ => by
  obtain ⟨e1, hl⟩ := few_some ef
  refine ⟨H0, G0, G, ρ, ds, R, e1, fun vs G1 H1 s1 da => ⟨by rw [da.length]; exact Nat.le_of_lt (small1000 hl), fun p hp => ?_⟩⟩
  have sg := Stp.new (p := p) (o := .lst vs) s1.gh hp
  exact q p vs G1 _ (s1.trans sg) (s1.hh.free hp) (s1.gh.free hp) upd_same da
end
end Dat
open PySem PySem.Spec PyProof.Rows L2
namespace Dat

/-! ### operators on data -/
def dAdd : PyData → PyData → Option PyData
  | .int i, .int j => some (.int (i + j))
  | .str x, .str y => if x.length + y.length ≤ 16777216 then some (.str (x ++ y)) else none
  | .list xs, .list ys => if xs.length + ys.length ≤ 16777216 then some (.list (xs ++ ys)) else none
  | .tuple xs, .tuple ys => if xs.length + ys.length ≤ 16777216 ∧ xs ≠ [] then some (.tuple (xs ++ ys)) else none
  | _, _ => none
def dSub : PyData → PyData → Option PyData
  | .int i, .int j => some (.int (i - j))
  | _, _ => none
def dMul : PyData → PyData → Option PyData
  | .int i, .int j => if (-(2 ^ 64) < i ∧ i < 2 ^ 64) ∨ (-(2 ^ 64) < j ∧ j < 2 ^ 64) then some (.int (i * j)) else none
  | _, _ => none
def dMod : PyData → PyData → Option PyData
  | .int i, .int j => if 0 < j then some (.int (i % j)) else none
  | _, _ => none
def dDiv : PyData → PyData → Option PyData
  | .int i, .int j => if 0 < j ∧ j < 1073741824 then some (.int (i / j)) else none
  | _, _ => none
def dPow : PyData → PyData → Option PyData
  | .int i, .int j => if 0 ≤ j ∧ j ≤ 1000000 ∧ i.natAbs < 2 ^ 64 then some (.int (i ^ j.toNat)) else none
  | _, _ => none
theorem line_eq : sizeLine = 16777216 := rfl

section
variable {X : Cx}
theorem add_plain {prog : Program} {w : World} {A : Around} {E : Value → Shared → Prop} {s : Shared} {l b : Addr} {vs ws : List Value} {Q : Value → Shared → Prop} (hl : s.heap.IsList l vs.toArray) (hb : s.heap.IsList b ws.toArray)
    (h : Q (.ref s.heap.objs.size) { s with heap := s.heap.push { cls := .type "list", data := .seq (vs ++ ws).toArray } }) (hsz : vs.length + ws.length ≤ sizeLine) : wpAny (model prog w) A (binaryOp .Add (.ref l) (.ref b)) Q E s := by
  obtain ⟨⟨cls, dd, data, sl⟩, ho, hc, n, hd⟩ := id hl
  obtain ⟨⟨cls2, dd2, data2, sl2⟩, ho2, hc2, n2, hd2⟩ := id hb
  simp only at hc hd hc2 hd2
  subst hc hd hc2 hd2
  have e : vs.toArray ++ ws.toArray = (vs ++ ws).toArray := by simp
  refine concat_meets ⟨_, ho, rfl⟩ ⟨_, ho2, rfl⟩ noFill_list_add seq_list_add PySem.F.slot_list_add PySem.F.entry_list_add (PySem.F.args_list_add_2 _ _) (list_addW l b vs.toArray ws.toArray n n2 dd dd2 sl sl2 (by simpa using hsz)) ⟨ho, ho2, ?_⟩
  rw [e]
  exact h
theorem dAdd_some {x y d : PyData} (h : dAdd x y = some d) : (∃ i j, x = .int i ∧ y = .int j ∧ d = .int (i + j)) ∨ (∃ a b, x = .str a ∧ y = .str b ∧ a.length + b.length ≤ 16777216 ∧ d = .str (a ++ b)) ∨
    (∃ xs ys, x = .list xs ∧ y = .list ys ∧ xs.length + ys.length ≤ 16777216 ∧ d = .list (xs ++ ys)) ∨ (∃ xs ys, x = .tuple xs ∧ y = .tuple ys ∧ (xs.length + ys.length ≤ 16777216 ∧ xs ≠ []) ∧ d = .tuple (xs ++ ys)) := by
  cases x <;> cases y <;> simp only [dAdd] at h <;> first | (cases h; done) | skip
  · cases h; exact .inl ⟨_, _, rfl, rfl, rfl⟩
  · split at h
    · cases h; exact .inr (.inl ⟨_, _, rfl, rfl, by assumption, rfl⟩)
    · cases h
  · split at h
    · cases h; exact .inr (.inr (.inl ⟨_, _, rfl, rfl, by assumption, rfl⟩))
    · cases h
  · split at h
    · cases h; exact .inr (.inr (.inr ⟨_, _, rfl, rfl, by assumption, rfl⟩))
    · cases h
theorem op_dAdd : OpR X (binaryOp .Add) (r2D X.K dAdd) := by
  intro pins s σ H x y v u Q I rx ry ⟨G, dx, dy, d, gh, bx, b2, eg, q⟩
  rcases dAdd_some eg with ⟨i, j, rfl, rfl, rfl⟩ | ⟨a, b, rfl, rfl, hl, rfl⟩ | ⟨xs, ys, rfl, rfl, hl, rfl⟩ | ⟨xs, ys, rfl, rfl, ⟨hl, hn⟩, rfl⟩
  · exact op_add pins s σ H x y v u Q I rx ry ⟨i, j, bx.int, b2.int, q _ G H (Stp.refl gh) (.int _)⟩
  · exact op_add_str pins s σ H x y v u Q I rx ry ⟨a, b, bx.str, b2.str, hl, q _ G H (Stp.refl gh) (.str _)⟩
  · obtain ⟨p, vs, rfl, hp, da⟩ := bx.list gh
    obtain ⟨p2, vs2, rfl, hp2, da2⟩ := b2.list gh
    cases rx
    cases ry
    obtain ⟨its, rv, pl, _⟩ := I.list hp
    obtain ⟨its2, rv2, pl2, _⟩ := I.list hp2
    have l1 := rv.length
    have l2 := rv2.length
    have l3 := da.length
    have l4 := da2.length
    have l5 := line_eq
    refine add_plain pl.isList pl2.isList ?_ (by omega)
    have hn : H s.heap.objs.size = none := I.fresh
    have sg := Stp.newF (p := s.heap.objs.size) (o := .lst (vs ++ vs2)) gh hn
    exact ⟨.ref _, _, I.lnew (t' := s.toks) (rv.append rv2) (by rw [List.length_append]; omega), rfl, q _ _ _ sg (.lst (SqL.of upd_same) ((dpAll_mono sg.gg _ _ da).append (dpAll_mono sg.gg _ _ da2)))⟩
  · obtain ⟨p, vs, rfl, hp, da⟩ := bx.tup gh
    obtain ⟨p2, vs2, rfl, hp2, da2⟩ := b2.tup gh
    have l3 := da.length
    have l4 := da2.length
    refine op_catT pins s σ H _ _ v u Q I rx ry ⟨p, p2, vs, vs2, rfl, rfl, hp, hp2, fun z => hn (by subst z; cases da; rfl), by rw [line_eq]; omega, fun z => ?_, fun z p' hp' => ?_⟩
    · subst z
      cases da2
      have dx : Dp X.K G (.ref p) (.tuple xs) := by
        rcases bx with b | ⟨_, _, _, _, e, _⟩
        · exact b
        · cases e
      rw [List.append_nil] at q
      exact q _ G H (Stp.refl gh) dx
    · have sg := Stp.newF (p := p') (o := .tup (vs ++ vs2)) gh hp'
      exact q _ _ _ sg (.tup (SqT.of upd_same) ((dpAll_mono sg.gg _ _ da).append (dpAll_mono sg.gg _ _ da2)))
theorem op_of {f : Value → Value → Sem Value} {g : PyData → PyData → Option PyData} {r : R2} (h : OpR X f r)
    (k : ∀ G x y dx dy d H (Q : VK), Same G H → Bd X.K G H x dx → Bd X.K G H y dy → g dx dy = some d → (∀ v G' H', Stp G H G' H' → Dp X.K G' v d → Q v H') → r x y H Q) : OpR X f (r2D X.K g) :=
  fun pins s σ H x y v u Q I rx ry ⟨G, dx, dy, d, gh, bx, b2, eg, q⟩ => h pins s σ H x y v u Q I rx ry (k G x y dx dy d H Q gh bx b2 eg q)
theorem op_dSub : OpR X (binaryOp .Sub) (r2D X.K dSub) := op_of op_sub fun G x y dx dy d H Q gh bx b2 eg q => by
  cases dx <;> cases dy <;> simp only [dSub] at eg <;> first | (cases eg; done) | skip
  cases eg; exact ⟨_, _, bx.int, b2.int, q _ G H (Stp.refl gh) (.int _)⟩
theorem op_dMul : OpR X (binaryOp .Mult) (r2D X.K dMul) := op_of op_mul fun G x y dx dy d H Q gh bx b2 eg q => by
  cases dx <;> cases dy <;> simp only [dMul] at eg <;> first | (cases eg; done) | skip
  split at eg
  · cases eg; exact ⟨_, _, bx.int, b2.int, by assumption, q _ G H (Stp.refl gh) (.int _)⟩
  · cases eg
theorem op_dMod : OpR X (binaryOp .Mod) (r2D X.K dMod) := op_of op_mod fun G x y dx dy d H Q gh bx b2 eg q => by
  cases dx <;> cases dy <;> simp only [dMod] at eg <;> first | (cases eg; done) | skip
  split at eg
  · cases eg; exact ⟨_, _, bx.int, b2.int, by assumption, q _ G H (Stp.refl gh) (.int _)⟩
  · cases eg
theorem op_dDiv : OpR X (binaryOp .FloorDiv) (r2D X.K dDiv) := op_of op_fdiv fun G x y dx dy d H Q gh bx b2 eg q => by
  cases dx <;> cases dy <;> simp only [dDiv] at eg <;> first | (cases eg; done) | skip
  split at eg
  · cases eg; exact ⟨_, _, bx.int, b2.int, by assumption, q _ G H (Stp.refl gh) (.int _)⟩
  · cases eg
theorem op_dPow : OpR X (binaryOp .Pow) (r2D X.K dPow) := op_of op_pow fun G x y dx dy d H Q gh bx b2 eg q => by
  cases dx <;> cases dy <;> simp only [dPow] at eg <;> first | (cases eg; done) | skip
  split at eg
  · cases eg; exact ⟨_, _, bx.int, b2.int, by assumption, q _ G H (Stp.refl gh) (.int _)⟩
  · cases eg
/-- -x -/
def f1 (g : PyData → Option PyData) (F : Fd) : Fd := fun ρ => (F ρ).bind g
def dNeg : PyData → Option PyData
  | .int i => some (.int (-i))
  | _ => none
theorem d_neg {a : Expr} {pos : Pos} {O : List Nat} {F : Fd} (h : PE X a (RB X.K O F)) : PE X (.UnaryOp .USub a pos) (RD X.K O (f1 dNeg F)) := pe_imp (pe_un un_neg h) fun σ H Q ⟨H0, G0, G, ρ, d, R, ef, q⟩ => by
  unfold f1 at ef
  cases e : F ρ with
  | none => rw [e] at ef; cases ef
  | some z =>
    rw [e] at ef
    cases z with
    | int i => cases ef; exact ⟨H0, G0, G, ρ, _, R, e, fun v G' H' s b => ⟨i, b.int, q _ G' H' s (.int _)⟩⟩
    | none => cases ef
    | bool _ => cases ef
    | str _ => cases ef
    | list _ => cases ef
    | tuple _ => cases ef
    | dict _ => cases ef

/-! ### comparisons: ==, != of any data; < of whole numbers, of alike data; in -/
/-- not deeper than a hundred -/
def shal (d : PyData) : Bool := decide (d.depth ≤ 100)
def dEq (x y : PyData) : Option PyData := if shal x ∨ shal y then some (.bool (PyData.eqv x y)) else none
def dNe (x y : PyData) : Option PyData := if shal x ∨ shal y then some (.bool (!PyData.eqv x y)) else none
theorem shal_min {x y : PyData} {n : Nat} (h : shal x = true ∨ shal y = true) (hu : n + 200 < cLine) : n + min x.depth y.depth < cLine := by
  have h' : x.depth ≤ 100 ∨ y.depth ≤ 100 := by
    rcases h with h | h
    · exact .inl (of_decide_eq_true h)
    · exact .inr (of_decide_eq_true h)
  omega
theorem op_dEq (hu : X.A.units + 200 < cLine) : OpR X (compareOp .Eq) (r2D X.K dEq) := by
  intro pins s σ H x y v u Q I rx ry ⟨G, dx, dy, d, gh, bx, b2, eg, q⟩
  unfold dEq at eg
  split at eg
  · rename_i hs
    cases eg
    obtain ⟨as, r1⟩ := Dp.reads I dx x v (bx.dp gh) rx
    obtain ⟨bs, r2⟩ := Dp.reads I dy y u (b2.dp gh) ry
    exact SeqAt.eq_plain r1 r2 (bx.plain gh) (b2.plain gh) (shal_min hs hu) ⟨.bl _, H, I, rfl, q _ G H (Stp.refl gh) (.bl _)⟩
  · cases eg
theorem op_dNe (hu : X.A.units + 200 < cLine) : OpR X (compareOp .NotEq) (r2D X.K dNe) := by
  intro pins s σ H x y v u Q I rx ry ⟨G, dx, dy, d, gh, bx, b2, eg, q⟩
  unfold dNe at eg
  split at eg
  · rename_i hs
    cases eg
    obtain ⟨as, r1⟩ := Dp.reads I dx x v (bx.dp gh) rx
    obtain ⟨bs, r2⟩ := Dp.reads I dy y u (b2.dp gh) ry
    exact SeqAt.ne_plain r1 r2 (bx.plain gh) (b2.plain gh) (shal_min hs hu) ⟨.bl _, H, I, rfl, q _ G H (Stp.refl gh) (.bl _)⟩
  · cases eg
def dLt : PyData → PyData → Option PyData
  | .int i, .int j => some (.bool (decide (i < j)))
  | .tuple xs, .tuple ys => if PySem.W.alike (.tuple xs) (.tuple ys) ∧ (shal (.tuple xs) ∨ shal (.tuple ys)) then some (.bool (PySem.W.dataLt (.tuple xs) (.tuple ys))) else none
  | _, _ => none
def dLe : PyData → PyData → Option PyData
  | .int i, .int j => some (.bool (decide (i ≤ j)))
  | _, _ => none
def dGt : PyData → PyData → Option PyData
  | .int i, .int j => some (.bool (decide (j < i)))
  | _, _ => none
def dGe : PyData → PyData → Option PyData
  | .int i, .int j => some (.bool (decide (j ≤ i)))
  | _, _ => none
theorem op_dLt (hu : X.A.units + 200 < cLine) : OpR X (compareOp .Lt) (r2D X.K dLt) := by
  intro pins s σ H x y v u Q I rx ry ⟨G, dx, dy, d, gh, bx, b2, eg, q⟩
  have two : (∃ i j, dx = .int i ∧ dy = .int j ∧ d = .bool (decide (i < j))) ∨ (∃ xs ys, dx = .tuple xs ∧ dy = .tuple ys ∧ PySem.W.alike (.tuple xs) (.tuple ys) = true ∧ (shal (.tuple xs) = true ∨ shal (.tuple ys) = true) ∧ d = .bool (PySem.W.dataLt (.tuple xs) (.tuple ys))) := by
    cases dx <;> cases dy <;> simp only [dLt] at eg <;> first | (cases eg; done) | skip
    · cases eg; exact .inl ⟨_, _, rfl, rfl, rfl⟩
    · split at eg
      · rename_i hs
        cases eg; exact .inr ⟨_, _, rfl, rfl, hs.1, hs.2, rfl⟩
      · cases eg
  rcases two with ⟨i, j, rfl, rfl, rfl⟩ | ⟨xs, ys, rfl, rfl, ha, hs, rfl⟩
  · exact op_lt pins s σ H x y v u Q I rx ry ⟨i, j, bx.int, b2.int, q _ G H (Stp.refl gh) (.bl _)⟩
  · obtain ⟨as, r1⟩ := Dp.reads I _ x v (bx.dp gh) rx
    obtain ⟨bs, r2⟩ := Dp.reads I _ y u (b2.dp gh) ry
    exact PySem.W.lt_data r1 r2 ha (fun z => nomatch z) (shal_min hs hu) ⟨.bl _, H, I, rfl, q _ G H (Stp.refl gh) (.bl _)⟩
theorem op_dLe : OpR X (compareOp .LtE) (r2D X.K dLe) := op_of op_le fun G x y dx dy d H Q gh bx b2 eg q => by
  cases dx <;> cases dy <;> simp only [dLe] at eg <;> first | (cases eg; done) | skip
  cases eg; exact ⟨_, _, bx.int, b2.int, q _ G H (Stp.refl gh) (.bl _)⟩
theorem op_dGt : OpR X (compareOp .Gt) (r2D X.K dGt) := op_of op_gt fun G x y dx dy d H Q gh bx b2 eg q => by
  cases dx <;> cases dy <;> simp only [dGt] at eg <;> first | (cases eg; done) | skip
  cases eg; exact ⟨_, _, bx.int, b2.int, q _ G H (Stp.refl gh) (.bl _)⟩
theorem op_dGe : OpR X (compareOp .GtE) (r2D X.K dGe) := op_of op_ge fun G x y dx dy d H Q gh bx b2 eg q => by
  cases dx <;> cases dy <;> simp only [dGe] at eg <;> first | (cases eg; done) | skip
  cases eg; exact ⟨_, _, bx.int, b2.int, q _ G H (Stp.refl gh) (.bl _)⟩
def anyEq (xs : List PyData) (d : PyData) : Bool := xs.any fun y => PyData.eqv y d
def dIn : PyData → PyData → Option PyData
  | d, .list xs => if shal (.list xs) ∨ shal d then some (.bool (anyEq xs d)) else none
  | d, .tuple xs => if shal (.tuple xs) ∨ shal d then some (.bool (anyEq xs d)) else none
  | _, _ => none
def dNotIn : PyData → PyData → Option PyData
  | d, .list xs => if shal (.list xs) ∨ shal d then some (.bool (!anyEq xs d)) else none
  | d, .tuple xs => if shal (.tuple xs) ∨ shal d then some (.bool (!anyEq xs d)) else none
  | _, _ => none
theorem shal_minL {xs : List PyData} {y : PyData} {n : Nat} (h : shal (.list xs) = true ∨ shal y = true) (hu : n + 200 < cLine) : n + 1 + min (PyData.depthAll xs) y.depth < cLine := by
  have h' : PyData.depth (.list xs) ≤ 100 ∨ y.depth ≤ 100 := by
    rcases h with h | h
    · exact .inl (of_decide_eq_true h)
    · exact .inr (of_decide_eq_true h)
  simp only [PyData.depth] at h'
  omega
theorem shal_minT {xs : List PyData} {y : PyData} {n : Nat} (h : shal (.tuple xs) = true ∨ shal y = true) (hu : n + 200 < cLine) : n + 1 + min (PyData.depthAll xs) y.depth < cLine := by
  have h' : PyData.depth (.tuple xs) ≤ 100 ∨ y.depth ≤ 100 := by
    rcases h with h | h
    · exact .inl (of_decide_eq_true h)
    · exact .inr (of_decide_eq_true h)
  simp only [PyData.depth] at h'
  omega
theorem plainL {xs : List PyData} (h : PyData.plain (.list xs) = true) : PyData.plainAll xs = true := by simpa only [PyData.plain] using h
theorem plainT {xs : List PyData} (h : PyData.plain (.tuple xs) = true) : PyData.plainAll xs = true := by simpa only [PyData.plain] using h
theorem op_dIn (hu : X.A.units + 200 < cLine) : OpR X (compareOp .In) (r2D X.K dIn) := by
  intro pins s σ H x y v u Q I rx ry ⟨G, dx, dy, d, gh, bx, b2, eg, q⟩
  obtain ⟨as, r1⟩ := Dp.reads I dx x v (bx.dp gh) rx
  obtain ⟨bs, r2⟩ := Dp.reads I dy y u (b2.dp gh) ry
  cases dy <;> simp only [dIn] at eg <;> first | (cases eg; done) | skip
  · split at eg
    · rename_i hs
      cases eg
      exact SeqAt.in_list_data r2 r1 (plainL (b2.plain gh)) (bx.plain gh) (shal_minL hs hu) ⟨.bl _, H, I, rfl, q _ G H (Stp.refl gh) (.bl _)⟩
    · cases eg
  · split at eg
    · rename_i hs
      cases eg
      exact SeqAt.in_tuple_data r2 r1 (plainT (b2.plain gh)) (bx.plain gh) (shal_minT hs hu) ⟨.bl _, H, I, rfl, q _ G H (Stp.refl gh) (.bl _)⟩
    · cases eg
theorem op_dNotIn (hu : X.A.units + 200 < cLine) : OpR X (compareOp .NotIn) (r2D X.K dNotIn) := by
  intro pins s σ H x y v u Q I rx ry ⟨G, dx, dy, d, gh, bx, b2, eg, q⟩
  obtain ⟨as, r1⟩ := Dp.reads I dx x v (bx.dp gh) rx
  obtain ⟨bs, r2⟩ := Dp.reads I dy y u (b2.dp gh) ry
  cases dy <;> simp only [dNotIn] at eg <;> first | (cases eg; done) | skip
  · split at eg
    · rename_i hs
      cases eg
      exact SeqAt.notIn_list_data r2 r1 (plainL (b2.plain gh)) (bx.plain gh) (shal_minL hs hu) ⟨.bl _, H, I, rfl, q _ G H (Stp.refl gh) (.bl _)⟩
    · cases eg
  · split at eg
    · rename_i hs
      cases eg
      exact SeqAt.notIn_tuple_data r2 r1 (plainT (b2.plain gh)) (bx.plain gh) (shal_minT hs hu) ⟨.bl _, H, I, rfl, q _ G H (Stp.refl gh) (.bl _)⟩
    · cases eg
end
end Dat
open PySem PySem.Spec PyProof.Rows L2
namespace Dat

/-! ### subscripts -/
def dIx : PyData → PyData → Option PyData
  | .list xs, .int i => atI xs i
  | .tuple xs, .int i => atI xs i
  | _, _ => none
theorem atI_dp {K : PySem.W.Frag} {G : Hp} {vs : List V} {ds : List PyData} {i : Int} {d : PyData} (h : DpAll K G vs ds) (e : atI ds i = some d) : ∃ v, atI vs i = some v ∧ Dp K G v d := by
  unfold atI at e ⊢
  rw [h.length]
  cases q : ixN ds.length i with
  | none => rw [q] at e; cases e
  | some j =>
    rw [q] at e
    exact h.get (i := j) e
section
variable {X : Cx} {a b : Expr} {pos : Pos} {O : List Nat} {F F' : Fd} {L : Fl}
theorem ix_dIx : IxR X (r2D X.K dIx) := by
  intro value slice pins s σ H x y v u Q I rx ry ⟨G, dx, dy, d, gh, bx, b2, eg, q⟩ hs
  cases dx <;> cases dy <;> simp only [dIx] at eg <;> first | (cases eg; done) | skip
  · obtain ⟨p, vs, rfl, hp, da⟩ := bx.list gh
    obtain ⟨w, ew, dw⟩ := atI_dp da eg
    exact ix_list value slice pins s σ H _ y v u Q I rx ry ⟨p, vs, _, w, rfl, b2.int, hp, ew, q w G H (Stp.refl gh) dw⟩ hs
  · obtain ⟨p, vs, rfl, hp, da⟩ := bx.tup gh
    obtain ⟨w, ew, dw⟩ := atI_dp da eg
    exact ix_tup value slice pins s σ H _ y v u Q I rx ry ⟨p, vs, _, w, rfl, b2.int, hp, ew, q w G H (Stp.refl gh) dw⟩ hs
theorem d_ix (ha : PE X a (RB X.K O F)) (hb : PE X b (RB X.K O F')) (hs : PlainIx b) : PE X (.Subscript a b pos) (RD X.K O (f2 dIx F F')) :=
  pe_imp (pe_ix ix_dIx ha hb hs) fun σ H Q h => top_imp h

/-! ### slices -/
def RP (K : PySem.W.Frag) (O : List Nat) (P : Dv → Option (Option Int)) : TO := fun σ H Q => ∃ H0 G0 G ρ o, Rep K H0 G0 G H O σ ρ ∧ P ρ = some o ∧ ∀ G' H', Stp G H G' H' → Q o H'
def noP : Dv → Option (Option Int) := fun _ => some none
def asI (F : Fd) : Dv → Option Int := fun ρ => (F ρ).bind fun d => match d with | .int i => some i | _ => none
theorem asI_some {ρ : Dv} {i : Int} (h : asI F ρ = some i) : F ρ = some (.int i) := by
  unfold asI at h
  cases e : F ρ with
  | none => rw [e] at h; cases h
  | some d =>
    rw [e] at h
    cases d <;> first | (cases h; rfl) | (cases h; done)
def someP (F : Fd) : Dv → Option (Option Int) := fun ρ => (asI F ρ).map some
theorem p_none : PO X none (RP X.K O noP) := ⟨fun pins s σ H Q I ⟨H0, G0, G, ρ, o, R, e, q⟩ => by cases e; exact po_none.run pins s σ H Q I (q G H (Stp.refl R.gh))⟩
theorem p_some (h : PE X a (RB X.K O F)) : PO X (some a) (RP X.K O (someP F)) := ⟨fun pins s σ H Q I ⟨H0, G0, G, ρ, o, R, e, q⟩ => by
  unfold someP at e
  cases e1 : asI F ρ with
  | none => rw [e1] at e; cases e
  | some i =>
    rw [e1] at e; cases e
    exact (po_some h).run pins s σ H Q I ⟨H0, G0, G, ρ, _, R, asI_some e1, fun v G' H' s b => ⟨i, b.int, q G' H' s⟩⟩⟩
def cutD (xs : List PyData) (lo hi : Option Int) : List PyData := (xs.drop (HT.sIx xs.length 0 lo)).take (HT.sIx xs.length xs.length hi - HT.sIx xs.length 0 lo)
theorem cut_dp {K : PySem.W.Frag} {G : Hp} {vs : List V} {ds : List PyData} (lo hi : Option Int) (h : DpAll K G vs ds) : DpAll K G (cutV vs lo hi) (cutD ds lo hi) := by
  unfold cutV cutD
  rw [h.length]
  exact (h.drop _).take _
/-- a tuple's slice: a part of it (the whole is the same object: not here) -/
def dSlT (d : PyData) (lo hi : Option Int) : Option PyData := match d with
  | .tuple xs => if ¬ (HT.sIx xs.length 0 lo = 0 ∧ HT.sIx xs.length xs.length hi = xs.length) then some (.tuple (cutD xs lo hi)) else none
  | _ => none
def dSlL (d : PyData) (lo hi : Option Int) : Option (List PyData) := match d with
  | .list xs => some (cutD xs lo hi)
  | _ => none
def slF {α : Type} (g : PyData → Option Int → Option Int → Option α) (F : Fd) (P P' : Dv → Option (Option Int)) : Dv → Option α := fun ρ => (F ρ).bind fun d => (P ρ).bind fun lo => (P' ρ).bind fun hi => g d lo hi
theorem slF_some {α : Type} {g : PyData → Option Int → Option Int → Option α} {P P' : Dv → Option (Option Int)} {ρ : Dv} {y : α} (h : slF g F P P' ρ = some y) : ∃ d lo hi, F ρ = some d ∧ P ρ = some lo ∧ P' ρ = some hi ∧ g d lo hi = some y := by
  unfold slF at h
  cases e1 : F ρ with
  | none => rw [e1] at h; cases h
  | some d =>
    cases e2 : P ρ with
    | none => rw [e1, e2] at h; cases h
    | some lo =>
      cases e3 : P' ρ with
      | none => rw [e1, e2, e3] at h; cases h
      | some hi => rw [e1, e2, e3] at h; exact ⟨d, lo, hi, rfl, rfl, rfl, h⟩
theorem d_slT {lo hi : Option Expr} {p2 : Pos} {P P' : Dv → Option (Option Int)} (ha : PE X a (RB X.K O F)) (hl : PO X lo (RP X.K O P)) (hu : PO X hi (RP X.K O P')) : PE X (.Subscript a (.Slice lo hi none p2) pos) (RD X.K O (slF dSlT F P P')) :=
  pe_imp (pe_slice sl_tup ha hl hu) fun σ H Q ⟨H0, G0, G, ρ, d, R, ef, q⟩ => by
    obtain ⟨dx, lo, hi, e1, e2, e3, e4⟩ := slF_some ef
    refine ⟨H0, G0, G, ρ, dx, R, e1, fun x G1 H1 s1 bx => ⟨H0, G0, G1, ρ, lo, R.stp s1, e2, fun G2 H2 s2 => ⟨H0, G0, G2, ρ, hi, (R.stp s1).stp s2, e3, fun G3 H3 s3 => ?_⟩⟩⟩
    cases dx <;> simp only [dSlT] at e4 <;> first | (cases e4; done) | skip
    split at e4
    · rename_i hw
      cases e4
      obtain ⟨p, vs, rfl, hp, da⟩ := ((bx.stp s2).stp s3).tup s3.gh
      refine ⟨p, vs, rfl, hp, by rw [da.length]; exact hw, fun p' hp' => ?_⟩
      have sg := Stp.newF (p := p') (o := .tup (cutV vs lo hi)) s3.gh hp'
      exact q _ _ _ (((s1.trans s2).trans s3).trans sg) (.tup (SqT.of upd_same) (dpAll_mono sg.gg _ _ (cut_dp lo hi da)))
    · cases e4
theorem o_slL {lo hi : Option Expr} {p2 : Pos} {P P' : Dv → Option (Option Int)} (ha : PE X a (RB X.K O F)) (hl : PO X lo (RP X.K O P)) (hu : PO X hi (RP X.K O P')) : PE X (.Subscript a (.Slice lo hi none p2) pos) (RO X.K O (slF dSlL F P P')) :=
  pe_imp (pe_slice sl_list ha hl hu) fun σ H Q ⟨H0, G0, G, ρ, d, R, ef, q⟩ => by
    obtain ⟨dx, lo, hi, e1, e2, e3, e4⟩ := slF_some ef
    refine ⟨H0, G0, G, ρ, dx, R, e1, fun x G1 H1 s1 bx => ⟨H0, G0, G1, ρ, lo, R.stp s1, e2, fun G2 H2 s2 => ⟨H0, G0, G2, ρ, hi, (R.stp s1).stp s2, e3, fun G3 H3 s3 => ?_⟩⟩⟩
    cases dx <;> simp only [dSlL] at e4 <;> first | (cases e4; done) | skip
    cases e4
    obtain ⟨p, vs, rfl, hp, da⟩ := ((bx.stp s2).stp s3).list s3.gh
    refine ⟨p, vs, rfl, hp, fun p' hp' => ?_⟩
    have sg := Stp.new (p := p') (o := .lst (cutV vs lo hi)) s3.gh hp'
    have s4 := (s1.trans s2).trans s3
    exact q _ _ _ _ (s4.trans sg) (s4.hh.free hp') (s3.gh.free hp') upd_same (cut_dp lo hi da)

/-! ### calls of built-ins -/
def rL (K : PySem.W.Frag) (g : List PyData → Option PyData) : List V → Hp → VK → Prop := fun vs H Q => ∃ G ds d, Same G H ∧ BdAll K G H vs ds ∧ g ds = some d ∧ ∀ v G' H', Stp G H G' H' → Dp K G' v d → Q v H'
def rLo (K : PySem.W.Frag) (g : List PyData → Option (List PyData)) : List V → Hp → VK → Prop := fun vs H Q => ∃ G ds es, Same G H ∧ BdAll K G H vs ds ∧ g ds = some es ∧
  ∀ p xs G' H', Stp G H G' H' → H p = none → G' p = none → H' p = some (.lst xs) → DpAll K G' xs es → Q (.ref p) H'
def fL {α : Type} (g : List PyData → Option α) (L : Fl) : Dv → Option α := fun ρ => (L ρ).bind g
theorem fL_some {α : Type} {g : List PyData → Option α} {ρ : Dv} {y : α} (h : fL g L ρ = some y) : ∃ ds, L ρ = some ds ∧ g ds = some y := by
  unfold fL at h
  cases e : L ρ with
  | none => rw [e] at h; cases h
  | some ds => rw [e] at h; exact ⟨ds, rfl, h⟩
variable {e : Expr} {es : List Expr} {x : Str} {p : Pos}
theorem cb_imp {g : List PyData → Option PyData} {σ : L2.St} {H : Hp} {Q : VK} (h : RD X.K O (fL g L) σ H Q) : tCB (rL X.K g) (RAb X.K O L) σ H Q := by
  obtain ⟨H0, G0, G, ρ, d, R, ef, q⟩ := h
  obtain ⟨ds, e1, e2⟩ := fL_some ef
  exact ⟨H0, G0, G, ρ, ds, R, e1, fun vs G1 H1 s1 b => ⟨G1, ds, d, s1.gh, b, e2, fun v G' H' s dv => q v G' H' (s1.trans s) dv⟩⟩
theorem cbo_imp {g : List PyData → Option (List PyData)} {σ : L2.St} {H : Hp} {Q : VK} (h : RO X.K O (fL g L) σ H Q) : tCB (rLo X.K g) (RAb X.K O L) σ H Q := by
  obtain ⟨H0, G0, G, ρ, ys, R, ef, q⟩ := h
  obtain ⟨ds, e1, e2⟩ := fL_some ef
  exact ⟨H0, G0, G, ρ, ds, R, e1, fun vs G1 H1 s1 b => ⟨G1, ds, ys, s1.gh, b, e2, fun p xs G' H' s n g hp da => q p xs G' H' (s1.trans s) (s1.hh.free n) g hp da⟩⟩
theorem d_callB {id : String} {g : List PyData → Option PyData} (hc : CallR X (.builtin id) (rL X.K g)) (hg : Gl X x) (hm : X.mg x = none) (hv : bootBuiltins x = some (.builtin id)) (ha : PA X (e :: es) (RAb X.K O L)) (hn : x ≠ "__name__" := by decide) (hdb : (x == ("__debug__" : Str)) = false := by decide)
    (he : starEach (e :: es) X.env = (false, eval e X.env) :: starEach es X.env := by rfl) (hpl : (backTo pos (starEach es X.env)).any (·.1) = false := by rfl) : PE X (.Call (.Name x p) (e :: es) [] pos) (RD X.K O (fL g L)) :=
  pe_imp (pe_callB hc hg hm hv ha hn hdb he hpl) fun σ H Q h => cb_imp h
theorem d_callT {T : String} {g : List PyData → Option PyData} (hc : CallR X (.type T) (rL X.K g)) (hg : Gl X x) (hm : X.mg x = none) (hv : bootBuiltins x = some (.type T)) (ha : PA X (e :: es) (RAb X.K O L)) (hn : x ≠ "__name__" := by decide) (hdb : (x == ("__debug__" : Str)) = false := by decide)
    (he : starEach (e :: es) X.env = (false, eval e X.env) :: starEach es X.env := by rfl) (hpl : (backTo pos (starEach es X.env)).any (·.1) = false := by rfl) : PE X (.Call (.Name x p) (e :: es) [] pos) (RD X.K O (fL g L)) :=
  pe_imp (pe_callTy hc hg hm hv ha hn hdb he hpl) fun σ H Q h => cb_imp h
theorem o_callB {id : String} {g : List PyData → Option (List PyData)} (hc : CallR X (.builtin id) (rLo X.K g)) (hg : Gl X x) (hm : X.mg x = none) (hv : bootBuiltins x = some (.builtin id)) (ha : PA X (e :: es) (RAb X.K O L)) (hn : x ≠ "__name__" := by decide) (hdb : (x == ("__debug__" : Str)) = false := by decide)
    (he : starEach (e :: es) X.env = (false, eval e X.env) :: starEach es X.env := by rfl) (hpl : (backTo pos (starEach es X.env)).any (·.1) = false := by rfl) : PE X (.Call (.Name x p) (e :: es) [] pos) (RO X.K O (fL g L)) :=
  pe_imp (pe_callB hc hg hm hv ha hn hdb he hpl) fun σ H Q h => cbo_imp h
theorem o_callT {T : String} {g : List PyData → Option (List PyData)} (hc : CallR X (.type T) (rLo X.K g)) (hg : Gl X x) (hm : X.mg x = none) (hv : bootBuiltins x = some (.type T)) (ha : PA X (e :: es) (RAb X.K O L)) (hn : x ≠ "__name__" := by decide) (hdb : (x == ("__debug__" : Str)) = false := by decide)
    (he : starEach (e :: es) X.env = (false, eval e X.env) :: starEach es X.env := by rfl) (hpl : (backTo pos (starEach es X.env)).any (·.1) = false := by rfl) : PE X (.Call (.Name x p) (e :: es) [] pos) (RO X.K O (fL g L)) :=
  pe_imp (pe_callTy hc hg hm hv ha hn hdb he hpl) fun σ H Q h => cbo_imp h
theorem BdAll.one {K : PySem.W.Frag} {G H : Hp} {vs : List V} {d : PyData} (h : BdAll K G H vs [d]) : ∃ v, vs = [v] ∧ Bd K G H v d := by
  cases h with | cons a t => cases t; exact ⟨_, rfl, a⟩
theorem BdAll.two {K : PySem.W.Frag} {G H : Hp} {vs : List V} {d d' : PyData} (h : BdAll K G H vs [d, d']) : ∃ v v', vs = [v, v'] ∧ Bd K G H v d ∧ Bd K G H v' d' := by
  cases h with | cons a t => cases t with | cons b t => cases t; exact ⟨_, _, rfl, a, b⟩
/-- the whole numbers that the data are -/
def intsD : List PyData → Option (List Int)
  | [] => some []
  | .int i :: r => (intsD r).map (i :: ·)
  | _ :: _ => none
theorem intsD_dp {K : PySem.W.Frag} {G : Hp} : ∀ {ds : List PyData} {ns : List Int} {vs : List V}, intsD ds = some ns → DpAll K G vs ds → vs = ns.map V.int
  | [], _, _, e, h => by cases e; cases h; rfl
  | d :: r, ns, _, e, h => by
    cases h with
    | cons a t =>
      cases d with
      | int i =>
        simp only [intsD] at e
        cases q : intsD r with
        | none => rw [q] at e; cases e
        | some ms =>
          rw [q] at e; cases e
          cases a
          rw [intsD_dp q t]; rfl
      | none => cases e
      | bool _ => cases e
      | str _ => cases e
      | list _ => cases e
      | tuple _ => cases e
      | dict _ => cases e
def dLen : List PyData → Option PyData
  | [.list xs] => some (.int xs.length)
  | [.tuple xs] => some (.int xs.length)
  | _ => none
theorem c_len : CallR X (.builtin "len") (rL X.K dLen) := by
  intro pins s σ H vs us Q I r ⟨G, ds, d, gh, b, eg, q⟩
  have two : (∃ xs, ds = [.list xs] ∧ d = .int xs.length) ∨ (∃ xs, ds = [.tuple xs] ∧ d = .int xs.length) := by
    unfold dLen at eg
    split at eg
    · cases eg; exact .inl ⟨_, rfl, rfl⟩
    · cases eg; exact .inr ⟨_, rfl, rfl⟩
    · cases eg
  rcases two with ⟨xs, rfl, rfl⟩ | ⟨xs, rfl, rfl⟩
  · obtain ⟨v, rfl, bv⟩ := b.one
    obtain ⟨p, ws, rfl, hp, da⟩ := bv.list gh
    exact call_len_seq pins s σ H _ us Q I r ⟨p, ws, rfl, .inl hp, q _ G H (Stp.refl gh) (by rw [da.length]; exact .int _)⟩
  · obtain ⟨v, rfl, bv⟩ := b.one
    obtain ⟨p, ws, rfl, hp, da⟩ := bv.tup gh
    exact call_len_seq pins s σ H _ us Q I r ⟨p, ws, rfl, .inr hp, q _ G H (Stp.refl gh) (by rw [da.length]; exact .int _)⟩
def dSum : List PyData → Option PyData
  | [.list xs] => (intsD xs).map fun ns => .int ns.sum
  | _ => none
theorem c_sum (hc : X.calm = true) : CallR X (.builtin "sum") (rL X.K dSum) := by
  intro pins s σ H vs us Q I r ⟨G, ds, d, gh, b, eg, q⟩
  unfold dSum at eg
  split at eg
  · rename_i xs
    cases e1 : intsD xs with
    | none => rw [e1] at eg; cases eg
    | some ns =>
      rw [e1] at eg; cases eg
      obtain ⟨v, rfl, bv⟩ := b.one
      obtain ⟨p, ws, rfl, hp, da⟩ := bv.list gh
      have ew := intsD_dp e1 da
      subst ew
      exact cr_sum hc pins s σ H _ us Q I r ⟨p, ns, rfl, hp, q _ G H (Stp.refl gh) (.int _)⟩
  · cases eg
def dMax : List PyData → Option PyData
  | [.list xs] => (intsD xs).bind fun ns => ns.max?.map .int
  | [.int i, .int j] => some (.int (if j > i then j else i))
  | _ => none
def dMin : List PyData → Option PyData
  | [.list xs] => (intsD xs).bind fun ns => ns.min?.map .int
  | [.int i, .int j] => some (.int (if j < i then j else i))
  | _ => none
theorem max_is {ns : List Int} {m m' : Int} (h : ns.max? = some m) (h1 : m' ∈ ns) (h2 : ∀ y, y ∈ ns → y ≤ m') : m' = m := by
  have e := (List.max?_eq_some_iff (α := Int)).mp h
  exact Int.le_antisymm (e.2 _ h1) (h2 _ e.1)
theorem min_is {ns : List Int} {m m' : Int} (h : ns.min? = some m) (h1 : m' ∈ ns) (h2 : ∀ y, y ∈ ns → m' ≤ y) : m' = m := by
  have e := (List.min?_eq_some_iff (α := Int)).mp h
  exact Int.le_antisymm (h2 _ e.1) (e.2 _ h1)
theorem c_max (hc : X.calm = true) : CallR X (.builtin "max") (rL X.K dMax) := by
  intro pins s σ H vs us Q I r ⟨G, ds, d, gh, b, eg, q⟩
  unfold dMax at eg
  split at eg
  · rename_i xs
    cases e1 : intsD xs with
    | none => rw [e1] at eg; cases eg
    | some ns =>
      rw [e1] at eg
      cases e2 : ns.max? with
      | none => rw [Option.bind_some, e2] at eg; cases eg
      | some m =>
        rw [Option.bind_some, e2] at eg; cases eg
        obtain ⟨v, rfl, bv⟩ := b.one
        obtain ⟨p, ws, rfl, hp, da⟩ := bv.list gh
        have ew := intsD_dp e1 da
        subst ew
        refine cr_max hc pins s σ H _ us Q I r ⟨p, ns, rfl, hp, ?_, fun m' h1 h2 => ?_⟩
        · cases ns with
          | nil => cases e2
          | cons _ _ => exact Nat.succ_pos _
        · rw [max_is e2 h1 h2]; exact q _ G H (Stp.refl gh) (.int _)
  · cases eg
    obtain ⟨v, v', rfl, b1, b2⟩ := b.two
    exact call_max2 hc pins s σ H _ us Q I r ⟨_, _, by rw [b1.int, b2.int], q _ G H (Stp.refl gh) (.int _)⟩
  · cases eg
theorem c_min (hc : X.calm = true) : CallR X (.builtin "min") (rL X.K dMin) := by
  intro pins s σ H vs us Q I r ⟨G, ds, d, gh, b, eg, q⟩
  unfold dMin at eg
  split at eg
  · rename_i xs
    cases e1 : intsD xs with
    | none => rw [e1] at eg; cases eg
    | some ns =>
      rw [e1] at eg
      cases e2 : ns.min? with
      | none => rw [Option.bind_some, e2] at eg; cases eg
      | some m =>
        rw [Option.bind_some, e2] at eg; cases eg
        obtain ⟨v, rfl, bv⟩ := b.one
        obtain ⟨p, ws, rfl, hp, da⟩ := bv.list gh
        have ew := intsD_dp e1 da
        subst ew
        refine cr_min hc pins s σ H _ us Q I r ⟨p, ns, rfl, hp, ?_, fun m' h1 h2 => ?_⟩
        · cases ns with
          | nil => cases e2
          | cons _ _ => exact Nat.succ_pos _
        · rw [min_is e2 h1 h2]; exact q _ G H (Stp.refl gh) (.int _)
  · cases eg
    obtain ⟨v, v', rfl, b1, b2⟩ := b.two
    exact call_min2 hc pins s σ H _ us Q I r ⟨_, _, by rw [b1.int, b2.int], q _ G H (Stp.refl gh) (.int _)⟩
  · cases eg
def boolsD : List PyData → Option (List Bool)
  | [] => some []
  | .bool i :: r => (boolsD r).map (i :: ·)
  | _ :: _ => none
theorem boolsD_dp {K : PySem.W.Frag} {G : Hp} : ∀ {ds : List PyData} {ns : List Bool} {vs : List V}, boolsD ds = some ns → DpAll K G vs ds → vs = ns.map V.bl
  | [], _, _, e, h => by cases e; cases h; rfl
  | d :: r, ns, _, e, h => by
    cases h with
    | cons a t =>
      cases d with
      | bool i =>
        simp only [boolsD] at e
        cases q : boolsD r with
        | none => rw [q] at e; cases e
        | some ms =>
          rw [q] at e; cases e
          cases a
          rw [boolsD_dp q t]; rfl
      | none => cases e
      | int _ => cases e
      | str _ => cases e
      | list _ => cases e
      | tuple _ => cases e
      | dict _ => cases e
def dAll : List PyData → Option PyData
  | [.list xs] => (boolsD xs).map fun ns => .bool (ns.all id)
  | _ => none
theorem c_all (hc : X.calm = true) : CallR X (.builtin "all") (rL X.K dAll) := by
  intro pins s σ H vs us Q I r ⟨G, ds, d, gh, b, eg, q⟩
  unfold dAll at eg
  split at eg
  · rename_i xs
    cases e1 : boolsD xs with
    | none => rw [e1] at eg; cases eg
    | some ns =>
      rw [e1] at eg; cases eg
      obtain ⟨v, rfl, bv⟩ := b.one
      obtain ⟨p, ws, rfl, hp, da⟩ := bv.list gh
      have ew := boolsD_dp e1 da
      subst ew
      exact cr_all hc pins s σ H _ us Q I r ⟨p, ns, rfl, hp, q _ G H (Stp.refl gh) (.bl _)⟩
  · cases eg
/-- list(x) -/
def dList : List PyData → Option (List PyData)
  | [.list xs] => some xs
  | [.tuple xs] => some xs
  | _ => none
theorem c_list : CallR X (.type "list") (rLo X.K dList) := by
  intro pins s σ H vs us Q I r ⟨G, ds, d, gh, b, eg, q⟩
  have two : (∃ xs, ds = [.list xs] ∧ d = xs) ∨ (∃ xs, ds = [.tuple xs] ∧ d = xs) := by
    unfold dList at eg
    split at eg
    · cases eg; exact .inl ⟨_, rfl, rfl⟩
    · cases eg; exact .inr ⟨_, rfl, rfl⟩
    · cases eg
  rcases two with ⟨xs, rfl, rfl⟩ | ⟨xs, rfl, rfl⟩
  · obtain ⟨v, rfl, bv⟩ := b.one
    obtain ⟨p, ws, rfl, hp, da⟩ := bv.list gh
    exact call_list_of pins s σ H _ us Q I r ⟨p, ws, rfl, .inl hp, fun l hl => q l _ G _ (Stp.new gh hl) hl (gh.free hl) upd_same da⟩
  · obtain ⟨v, rfl, bv⟩ := b.one
    obtain ⟨p, ws, rfl, hp, da⟩ := bv.tup gh
    exact call_list_of pins s σ H _ us Q I r ⟨p, ws, rfl, .inr hp, fun l hl => q l _ G _ (Stp.new gh hl) hl (gh.free hl) upd_same da⟩
def dTuple : List PyData → Option PyData
  | [.list xs] => some (.tuple xs)
  | [.tuple xs] => some (.tuple xs)
  | _ => none
theorem c_tuple : CallR X (.type "tuple") (rL X.K dTuple) := by
  intro pins s σ H vs us Q I r ⟨G, ds, d, gh, b, eg, q⟩
  have two : (∃ xs, ds = [.list xs] ∧ d = .tuple xs) ∨ (∃ xs, ds = [.tuple xs] ∧ d = .tuple xs) := by
    unfold dTuple at eg
    split at eg
    · cases eg; exact .inl ⟨_, rfl, rfl⟩
    · cases eg; exact .inr ⟨_, rfl, rfl⟩
    · cases eg
  rcases two with ⟨xs, rfl, rfl⟩ | ⟨xs, rfl, rfl⟩
  · obtain ⟨v, rfl, bv⟩ := b.one
    obtain ⟨p, ws, rfl, hp, da⟩ := bv.list gh
    refine call_tuple_of pins s σ H _ us Q I r ⟨p, ws, rfl, .inl ⟨hp, fun l hl => ?_⟩⟩
    have sg := Stp.newF (p := l) (o := .tup ws) gh hl
    exact q _ _ _ sg (.tup (SqT.of upd_same) (dpAll_mono sg.gg _ _ da))
  · obtain ⟨v, rfl, bv⟩ := b.one
    obtain ⟨p, ws, rfl, hp, da⟩ := bv.tup gh
    have dx : Dp X.K G (.ref p) (.tuple xs) := by
      rcases bv with b' | ⟨_, _, _, _, z, _⟩
      · exact b'
      · cases z
    exact call_tuple_of pins s σ H _ us Q I r ⟨p, ws, rfl, .inr ⟨hp, q _ G H (Stp.refl gh) dx⟩⟩
def dInt : List PyData → Option PyData
  | [.int i] => some (.int i)
  | [.bool b] => some (.int (if b then 1 else 0))
  | _ => none
theorem c_int : CallR X (.type "int") (rL X.K dInt) := by
  intro pins s σ H vs us Q I r ⟨G, ds, d, gh, b, eg, q⟩
  unfold dInt at eg
  split at eg
  · cases eg
    obtain ⟨v, rfl, bv⟩ := b.one
    exact call_int1 pins s σ H _ us Q I r (.inl ⟨_, by rw [bv.int], q _ G H (Stp.refl gh) (.int _)⟩)
  · cases eg
    obtain ⟨v, rfl, bv⟩ := b.one
    exact call_int1 pins s σ H _ us Q I r (.inr ⟨_, by rw [bv.bool], q _ G H (Stp.refl gh) (.int _)⟩)
  · cases eg
def dAbs : List PyData → Option PyData
  | [.int i] => some (.int (if i < 0 then -i else i))
  | _ => none
theorem c_abs : CallR X (.builtin "abs") (rL X.K dAbs) := by
  intro pins s σ H vs us Q I r ⟨G, ds, d, gh, b, eg, q⟩
  unfold dAbs at eg
  split at eg
  · cases eg
    obtain ⟨v, rfl, bv⟩ := b.one
    exact call_abs pins s σ H _ us Q I r ⟨_, by rw [bv.int], q _ G H (Stp.refl gh) (.int _)⟩
  · cases eg
/-- sorted(x) of alike data -/
def sortOk (xs : List PyData) : Bool := (xs.all fun x => xs.all fun y => PySem.W.alike x y) && ((xs.all fun x => match x with | .tuple (_ :: _) => true | _ => false) || xs.all fun x => match x with | .int _ => true | _ => false) && xs.all shal
def dSorted : List PyData → Option (List PyData)
  | [.list xs] => if sortOk xs then some (xs.mergeSort (PySem.W.dataLe false id)) else none
  | _ => none
theorem each_dp {K : PySem.W.Frag} {X : Cx} {pins : List (Addr × Obj)} {σ : L2.St} {H G : Hp} {s : Shared} (hK : X.K = K) (I : Inv X pins σ H s) (gh : Same G H) : ∀ {ds : List PyData} {vs : List V} {us : List Value}, DpAll K G vs ds → Vals vs us →
    PySem.W.EachIs (fun u d => ∃ v, RelV v u ∧ Dp K G v d ∧ ∃ as, Reads s.heap u d as) us ds
  | _, _, _, .nil, .nil => .nil
  | _, _, _, .cons a t, .cons r rr => by
    subst hK
    exact .cons ⟨_, r, a, Dp.reads I _ _ _ (dp_mono gh _ _ a) r⟩ (each_dp rfl I gh t rr)
theorem each_back {K : PySem.W.Frag} {G : Hp} {P : Value → PyData → Prop} : ∀ {ds : List PyData} {us : List Value}, PySem.W.EachIs (fun u d => ∃ v, RelV v u ∧ Dp K G v d ∧ P u d) us ds → ∃ vs, Vals vs us ∧ DpAll K G vs ds
  | _, _, .nil => ⟨[], .nil, .nil⟩
  | _, _, .cons ⟨v, r, d, _⟩ t => by
    obtain ⟨vs, h1, h2⟩ := each_back t
    exact ⟨v :: vs, .cons r h1, .cons d h2⟩
theorem sortOk_of {xs : List PyData} (h : sortOk xs = true) : PySem.W.AllAlike xs ∧ PySem.W.Sortable xs ∧ ∀ x, x ∈ xs → x.depth ≤ 100 := by
  unfold sortOk at h
  simp only [Bool.and_eq_true, Bool.or_eq_true, List.all_eq_true] at h
  obtain ⟨⟨h1, h2⟩, h3⟩ := h
  refine ⟨fun d hd d' hd' => h1 d hd d' hd', ?_, fun x hx => of_decide_eq_true (h3 x hx)⟩
  rcases h2 with h2 | h2
  · refine .inl fun d hd => ?_
    have := h2 d hd
    split at this
    · exact ⟨_, _, rfl⟩
    · cases this
  · refine .inr fun d hd => ?_
    have := h2 d hd
    split at this
    · exact ⟨(fun z => by cases z), (fun _ z => by cases z)⟩
    · cases this
theorem c_sorted (hu : X.A.units + 200 < cLine) : CallR X (.builtin "sorted") (rLo X.K dSorted) := by
  intro pins s σ H vs us Q I r ⟨G, ds, d, gh, b, eg, q⟩
  unfold dSorted at eg
  split at eg
  · rename_i xs
    split at eg
    · rename_i hok
      cases eg
      obtain ⟨v, rfl, bv⟩ := b.one
      obtain ⟨p, ws, rfl, hp, da⟩ := bv.list gh
      rw [Vals.ref1 r]
      obtain ⟨its, rv, pl, hz⟩ := I.list hp
      obtain ⟨k1, k2, k3⟩ := sortOk_of hok
      have e := each_dp rfl I gh da rv
      have hl : xs.length = ws.length := da.length.symm
      refine PySem.W.sorted_data (bs := xs) (enc := id) pl.isList e (e.mono fun _ _ ⟨_, _, _, z⟩ => z) (by rw [List.map_id]; exact k1) (by rw [List.map_id]; exact k2) (by rw [hl]; exact hz) (fun x hx => ?_) fun out hlen eo => ?_
      · have h1 := k3 x hx
        show X.A.units + 2 + (id x).depth < cLine
        simp only [id]
        omega
      · obtain ⟨vs', r1, d1⟩ := each_back eo
        obtain ⟨ep, he'⟩ := PyProof.Rows.sortedAll_at s.heap its (List.toArray out)
        have hfree : H (s.heap.objs.size + 1) = none := I.hok.fresh (Nat.le_succ _)
        have hl2 : vs'.length ≤ sizeLine := by rw [r1.length, hlen, hl]; exact hz
        exact ⟨.ref _, upd H (s.heap.objs.size + 1) (.lst vs'), I.laid (t' := s.toks) (fun _ _ => PyProof.Rows.sortedAll_old) (Nat.le_succ _) ⟨hl2, out, ep, r1, he'⟩, rfl, q _ _ G _ (Stp.new gh hfree) hfree (gh.free hfree) upd_same d1⟩
    · cases eg
  · cases eg

/-! ### isinstance of data -/
def dIsi (f : PyData → Bool) : PyData → Option PyData := fun d => some (.bool (f d))
def IsiOf (T : String) (f : PyData → Bool) : Prop := ∀ {prog : Program} {w : World} {A : Around} {E : Value → Shared → Prop} {s : Shared} {v : Value} {d : PyData} {as : List Addr} {Q : Value → Shared → Prop}, Reads s.heap v d as →
  (∀ tk, s.toks ≤ tk → Q (.bool (f d)) { s with toks := tk }) → wpAny (model prog w) A (call (.builtin "isinstance") [v, .type T]) Q E s
theorem isi_int : IsiOf "int" PyData.isInt := PySem.W.isinstance_int_data
theorem isi_bool : IsiOf "bool" PyData.isBool := PySem.W.isinstance_bool_data
theorem isi_str : IsiOf "str" PyData.isStr := PySem.W.isinstance_str_data
theorem isi_list : IsiOf "list" PyData.isList := PySem.W.isinstance_list_data
theorem isi_tuple : IsiOf "tuple" PyData.isTuple := PySem.W.isinstance_tuple_data
theorem isi_dict : IsiOf "dict" PyData.isDict := PySem.W.isinstance_dict_data
theorem d_isi {T : String} {f : PyData → Bool} {y : Str} {q p' : Pos} (hf : IsiOf T f) (hg : Gl X "isinstance") (hm : X.mg "isinstance" = none) (hgT : Gl X y) (hmT : X.mg y = none) (hvT : bootBuiltins y = some (.type T)) (ha : PE X e (RB X.K O F))
    (hn : y ≠ "__name__" := by decide) (hd : (y == ("__debug__" : Str)) = false := by decide)
    (hs : starEach [e, .Name y q] X.env = (false, eval e X.env) :: starEach [.Name y q] X.env := by rfl) (hs2 : starEach [.Name y q] X.env = (false, eval (.Name y q) X.env) :: starEach [] X.env := by rfl) (hpl : (backTo pos (starEach [.Name y q] X.env)).any (·.1) = false := by rfl)
    (hv : bootBuiltins "isinstance" = some (.builtin "isinstance") := by decide +kernel) :
    PE X (.Call (.Name "isinstance" p') [e, .Name y q] [] pos) (RD X.K O (f1 (dIsi f) F)) := by
  have hc : CallR X (.builtin "isinstance") (fun vs H Q => ∃ G v d, Same G H ∧ vs = [v, .ty T] ∧ Bd X.K G H v d ∧ Q (.bl (f d)) H) := by
    intro pins s σ H vs us Q I r ⟨G, v, d, gh, ev, b, q⟩
    subst ev
    obtain ⟨u1, u2, rfl, r1, r2⟩ := vals2 r
    cases (show u2 = Value.type T from r2)
    obtain ⟨as, rd⟩ := Dp.reads I d v u1 (b.dp gh) r1
    exact hf rd fun tk _ => ⟨.bl (f d), H, I.tok tk, rfl, q⟩
  refine pe_imp (pe_callB hc hg hm hv (pa_cons ha (pa_cons (pe_bltn (v := .ty T) hgT hmT hvT rfl hn hd) pa_nil hs2) hs) (by decide) (by decide) hs hpl) fun σ H Q ⟨H0, G0, G, ρ, d, R, ef, q⟩ => ?_
  unfold f1 at ef
  cases e1 : F ρ with
  | none => rw [e1] at ef; cases ef
  | some dx =>
    rw [e1] at ef; cases ef
    exact ⟨H0, G0, G, ρ, dx, R, e1, fun v G1 H1 s1 bv => ⟨G1, v, dx, s1.gh, rfl, bv, q _ G1 H1 s1 (.bl _)⟩⟩
end
end Dat
open PySem PySem.Spec PyProof.Rows L2
namespace Dat

/-! ### what is walked -/
structure ItD (K : PySem.W.Frag) (J : It) (ds : List PyData) (G : Hp) : Prop where
  go : ∀ i G1 H1, Same G G1 → Same G1 H1 → i < ds.length → J.go i H1
  yl : ∀ i G1 H1 x H2, Same G G1 → Same G1 H1 → i < ds.length → J.yld i H1 x H2 → ∃ G2 d, Stp G1 H1 G2 H2 ∧ ds[i]? = some d ∧ Dp K G2 x d
  st : ∀ G1 H1, Same G G1 → Same G1 H1 → J.stop ds.length H1
def RI (K : PySem.W.Frag) (O : List Nat) (Fs : Fl) : TI := fun σ H R => ∃ H0 G0 G ρ ds, Rep K H0 G0 G H O σ ρ ∧ Fs ρ = some ds ∧ ∀ J G' H', Stp G H G' H' → ItD K J ds G' → ds.length ≤ sizeLine → R J H'
section
variable {X : Cx} {e tg : Expr} {pos : Pos} {O : List Nat} {F : Fd} {L : Fl}
theorem pi_imp {t t' : TI} (h : PI X tg e t) (w : ∀ σ H R, t' σ H R → t σ H R) : PI X tg e t' := ⟨fun pins s σ H R I q => h.run pins s σ H R I (w _ _ _ q)⟩
/-- a value's size, known of the heap -/
def SzOk (K : PySem.W.Frag) (v : V) (H : Hp) : Prop := ∀ a xs, v = .ref a → SqL K H a xs ∨ SqT K H a xs → xs.length ≤ sizeLine
def tSz (K : PySem.W.Frag) (t : TE) : TE := fun σ H Q => t σ H fun v H' => SzOk K v H' → Q v H'
theorem pe_sz {t : TE} (h : PE X e t) : PE X e (tSz X.K t) := ⟨fun pins s σ H Q I q => thn (h.run pins s σ H _ I q) fun u s1 ⟨v, H1, I1, r, k⟩ => ⟨v, H1, I1, r, k fun a xs ev hq => by
  rcases hq with hq | hq
  · obtain ⟨_, _, _, z⟩ := I1.list hq; exact z
  · obtain ⟨_, _, _, z⟩ := I1.tuple hq; exact z⟩⟩
/-- the items of a list or a tuple -/
def seqF (F : Fd) : Fl := fun ρ => (F ρ).bind fun d => match d with | .list xs => some xs | _ => none
def seqT (F : Fd) : Fl := fun ρ => (F ρ).bind fun d => match d with | .tuple xs => some xs | _ => none
theorem seqF_some {ρ : Dv} {ds : List PyData} (h : seqF F ρ = some ds) : F ρ = some (.list ds) := by
  unfold seqF at h
  cases e1 : F ρ with
  | none => rw [e1] at h; cases h
  | some d => rw [e1] at h; cases d <;> first | (cases h; rfl) | (cases h; done)
theorem seqT_some {ρ : Dv} {ds : List PyData} (h : seqT F ρ = some ds) : F ρ = some (.tuple ds) := by
  unfold seqT at h
  cases e1 : F ρ with
  | none => rw [e1] at h; cases h
  | some d => rw [e1] at h; cases d <;> first | (cases h; rfl) | (cases h; done)
theorem itd_list {K : PySem.W.Frag} {a : Addr} {xs : List V} {ds : List PyData} {G : Hp} (hq : SqL K G a xs) (da : DpAll K G xs ds) : ItD K (Itl K a) ds G := by
  refine ⟨fun i G1 H1 s1 s2 hi => ?_, fun i G1 H1 x H2 s1 s2 hi ⟨eh, y⟩ => ?_, fun G1 H1 s1 s2 => ⟨xs, s2.seq (s1.seq hq), by rw [da.length]; exact Nat.le_refl _⟩⟩
  · have hl : i < xs.length := by rw [da.length]; exact hi
    exact ⟨xs, xs[i], s2.seq (s1.seq hq), List.getElem?_eq_getElem hl⟩
  · subst eh
    obtain ⟨d, hd, hv⟩ := da.getV (y xs (s2.seq (s1.seq hq)))
    exact ⟨G1, d, Stp.refl s2, hd, dp_mono s1 _ _ hv⟩
theorem itd_tup {K : PySem.W.Frag} {a : Addr} {xs : List V} {ds : List PyData} {G : Hp} (hq : SqT K G a xs) (da : DpAll K G xs ds) : ItD K (Itt K a) ds G := by
  refine ⟨fun i G1 H1 s1 s2 hi => ?_, fun i G1 H1 x H2 s1 s2 hi ⟨eh, y⟩ => ?_, fun G1 H1 s1 s2 => ⟨xs, seqT_same s2 (seqT_same s1 hq), by rw [da.length]; exact Nat.le_refl _⟩⟩
  · have hl : i < xs.length := by rw [da.length]; exact hi
    exact ⟨xs, xs[i], seqT_same s2 (seqT_same s1 hq), List.getElem?_eq_getElem hl⟩
  · subst eh
    obtain ⟨d, hd, hv⟩ := da.getV (y xs (seqT_same s2 (seqT_same s1 hq)))
    exact ⟨G1, d, Stp.refl s2, hd, dp_mono s1 _ _ hv⟩
theorem i_list (h : PE X e (RD X.K O F)) : PI X tg e (RI X.K O (seqF F)) := pi_imp (pi_list (pe_sz h)) fun σ H R' ⟨H0, G0, G, ρ, ds, R, ef, q⟩ => by
  refine ⟨H0, G0, G, ρ, _, R, seqF_some ef, fun v G1 H1 s1 dv sz => ?_⟩
  cases dv with
  | lst hq da => exact ⟨_, rfl, ⟨_, s1.gh.seq hq⟩, q _ G1 H1 s1 (itd_list hq da) (by rw [← da.length]; exact sz _ _ rfl (.inl (s1.gh.seq hq)))⟩
theorem i_tup (h : PE X e (RD X.K O F)) : PI X tg e (RI X.K O (seqT F)) := pi_imp (pi_tup (pe_sz h)) fun σ H R' ⟨H0, G0, G, ρ, ds, R, ef, q⟩ => by
  refine ⟨H0, G0, G, ρ, _, R, seqT_some ef, fun v G1 H1 s1 dv sz => ?_⟩
  cases dv with
  | tup hq da => exact ⟨_, rfl, ⟨_, seqT_same s1.gh hq⟩, q _ G1 H1 s1 (itd_tup hq da) (by rw [← da.length]; exact sz _ _ rfl (.inr (seqT_same s1.gh hq)))⟩
/-- lo, lo + 1, .. (n of them) -/
def upFrom (lo : Int) (n : Nat) : List PyData := (List.range n).map fun k => .int (lo + (k : Nat))
theorem upFrom_length (lo : Int) (n : Nat) : (upFrom lo n).length = n := by simp [upFrom]
theorem upFrom_get {lo : Int} {n i : Nat} (h : i < n) : (upFrom lo n)[i]? = some (.int (lo + i)) := by simp [upFrom, h]
theorem itd_range {K : PySem.W.Frag} {lo : Int} {n : Nat} {G : Hp} : ItD K (Itr lo n) (upFrom lo n) G := by
  refine ⟨fun i G1 H1 s1 s2 hi => by rw [upFrom_length] at hi; exact hi, fun i G1 H1 x H2 s1 s2 hi ⟨eh, y⟩ => ?_, fun G1 H1 s1 s2 => by rw [upFrom_length]; exact Nat.le_refl _⟩
  subst eh y
  rw [upFrom_length] at hi
  exact ⟨G1, _, Stp.refl s2, upFrom_get hi, .int _⟩
def dRange : List PyData → Option (List PyData)
  | [.int j] => if j ≤ 16777216 ∧ -16777216 ≤ j then some (upFrom 0 j.toNat) else none
  | [.int i, .int j] => if j ≤ 16777216 ∧ -16777216 ≤ i ∧ i ≤ 16777216 ∧ -16777216 ≤ j ∧ j - i ≤ 16777216 then some (upFrom i (j - i).toNat) else none
  | _ => none
def exN (n : Nat) (L : Fl) : Fl := fun ρ => (L ρ).bind fun ds => if ds.length = n then some ds else none
theorem i_range1 {a : Expr} {p : Pos} (hg : Gl X "range") (hm : X.mg "range" = none) (ha : PA X [a] (RAb X.K O L)) (hs : starEach [a] X.env = [(false, eval a X.env)] := by rfl) : PI X tg (.Call (.Name "range" p) [a] [] pos) (RI X.K O (fL dRange (exN 1 L))) :=
  pi_imp (pi_range1 hg hm ha hs) fun σ H R' ⟨H0, G0, G, ρ, ds, R, ef, q⟩ => by
    obtain ⟨as, e1, e2⟩ := fL_some ef
    unfold exN at e1
    cases e3 : L ρ with
    | none => rw [e3] at e1; cases e1
    | some bs =>
      rw [e3] at e1
      have e1' : (if bs.length = 1 then some bs else none) = some as := e1
      split at e1'
      · rename_i h1
        cases e1'
        refine ⟨H0, G0, G, ρ, as, R, e3, fun vs G1 H1 s1 b => ?_⟩
        unfold dRange at e2
        split at e2
        · split at e2
          · rename_i hj
            cases e2
            obtain ⟨v, rfl, bv⟩ := b.one
            exact ⟨_, by rw [bv.int], by omega, by omega, q _ G1 H1 s1 itd_range (by rw [upFrom_length, line_eq]; omega)⟩
          · cases e2
        · cases h1
        · cases e2
      · cases e1'
theorem i_range2 {a b : Expr} {p : Pos} (hg : Gl X "range") (hm : X.mg "range" = none) (ha : PA X [a, b] (RAb X.K O L)) (hs : starEach [a, b] X.env = [(false, eval a X.env), (false, eval b X.env)] := by rfl) (hs2 : starEach [b] X.env = [(false, eval b X.env)] := by rfl) :
    PI X tg (.Call (.Name "range" p) [a, b] [] pos) (RI X.K O (fL dRange (exN 2 L))) :=
  pi_imp (pi_range2 hg hm ha hs hs2) fun σ H R' ⟨H0, G0, G, ρ, ds, R, ef, q⟩ => by
    obtain ⟨as, e1, e2⟩ := fL_some ef
    unfold exN at e1
    cases e3 : L ρ with
    | none => rw [e3] at e1; cases e1
    | some bs =>
      rw [e3] at e1
      have e1' : (if bs.length = 2 then some bs else none) = some as := e1
      split at e1'
      · rename_i h1
        cases e1'
        refine ⟨H0, G0, G, ρ, as, R, e3, fun vs G1 H1 s1 b => ?_⟩
        unfold dRange at e2
        split at e2
        · cases h1
        · split at e2
          · rename_i hj
            cases e2
            obtain ⟨v, v', rfl, b1, b2⟩ := b.two
            exact ⟨_, _, by rw [b1.int, b2.int], by omega, q _ G1 H1 s1 itd_range (by rw [upFrom_length, line_eq]; omega)⟩
          · cases e2
        · cases e2
      · cases e1'
/-- (0, x0), (1, x1), .. -/
def numbered (ds : List PyData) : List PyData := ds.mapIdx fun i d => .tuple [.int (i : Nat), d]
theorem itd_enum {K : PySem.W.Frag} {a : Addr} {xs : List V} {ds : List PyData} {G : Hp} (hq : SqL K G a xs) (da : DpAll K G xs ds) : ItD K (Ite K a) (numbered ds) G := by
  have hn : (numbered ds).length = ds.length := by simp [numbered]
  refine ⟨fun i G1 H1 s1 s2 hi => ?_, fun i G1 H1 x H2 s1 s2 hi ⟨T, z, ex, hT, eH, y⟩ => ?_, fun G1 H1 s1 s2 => ⟨xs, s2.seq (s1.seq hq), by rw [hn, da.length]; exact Nat.le_refl _⟩⟩
  · have hl : i < xs.length := by rw [da.length]; omega
    exact ⟨xs, xs[i], s2.seq (s1.seq hq), List.getElem?_eq_getElem hl⟩
  · subst ex eH
    obtain ⟨d, hd, hv⟩ := da.getV (y xs (s2.seq (s1.seq hq)))
    have sg := Stp.newF (p := T) (o := .tup [.int (i : Nat), z]) s2 hT
    refine ⟨_, .tuple [.int (i : Nat), d], sg, by simp [numbered, hd], .tup (SqT.of upd_same) (.cons (.int _) (.cons (dp_mono (s1.trans sg.gg) _ _ hv) .nil))⟩
def enF (F : Fd) : Fl := fun ρ => (seqF F ρ).map numbered
theorem i_enum {a : Expr} {p tpos : Pos} {elts : List Expr} {kk : Nat} (hg : Gl X "enumerate") (hm : X.mg "enumerate" = none) (h : PE X a (RD X.K O F)) (hs : starEach [a] X.env = [(false, eval a X.env)] := by rfl) (hs1 : starEach [a] X.env = (false, eval a X.env) :: starEach [] X.env := by rfl) :
    PI X (.Tuple elts kk tpos) (.Call (.Name "enumerate" p) [a] [] pos) (RI X.K O (enF F)) :=
  pi_imp (pi_enum hg hm (pa_cons (pe_sz h) pa_nil hs1) hs) fun σ H R' ⟨H0, G0, G, ρ, ds, R, ef, q⟩ => by
    unfold enF at ef
    cases e1 : seqF F ρ with
    | none => rw [e1] at ef; cases ef
    | some xs =>
      rw [e1] at ef; cases ef
      refine ⟨H0, G0, G, ρ, _, R, seqF_some e1, fun v G1 H1 s1 dv sz => ?_⟩
      cases dv with
      | lst hq da => exact ⟨_, _, rfl, s1.gh.seq hq, q _ G1 H1 s1 (itd_enum hq da) (by show (numbered xs).length ≤ _; simp only [numbered, List.length_mapIdx]; rw [← da.length]; exact sz _ _ rfl (.inl (s1.gh.seq hq)))⟩

/-! ### targets -/
abbrev Tgt := PyData → Dv → Option Dv
def TgD (K : PySem.W.Frag) (O : List Nat) (g : TG) (tgt : Tgt) (vs : List Nat) : Prop := ∀ (H0 G0 G H : Hp) (σ : L2.St) (ρ ρ' : Dv) (v : V) (d : PyData) (Q : L2.St → Hp → Prop), Rep K H0 G0 G H O σ ρ → Dp K G v d → tgt d ρ = some ρ' →
  (∀ σ', Rep K H0 G0 G H O σ' ρ' → (∀ ws : List Nat, (∀ x, x ∈ vs → x ∈ ws) → wipe σ' ws = wipe σ ws) → Q σ' H) → g v σ H Q
theorem wipe_get (σ : L2.St) (k : Nat) : ∀ ws : List Nat, (wipe σ ws)[k]? = if k ∈ ws then (if k < σ.length then some none else none) else σ[k]?
  | [] => by simp [wipe]
  | w :: ws => by
    have ih := wipe_get σ k ws
    unfold wipe
    by_cases h : w = k
    · subst h
      by_cases hl : w < σ.length
      · rw [List.getElem?_set_self (by rw [wipe_length]; exact hl)]; simp [hl]
      · rw [List.getElem?_eq_none (by rw [List.length_set, wipe_length]; omega)]; simp [hl]
    · rw [List.getElem?_set_ne h, ih]
      have : k ∈ w :: ws ↔ k ∈ ws := by simp [List.mem_cons, Ne.symm h]
      by_cases hk : k ∈ ws
      · rw [if_pos hk, if_pos (this.mpr hk)]
      · rw [if_neg hk, if_neg (fun z => hk (this.mp z))]
theorem wipe_set {σ : L2.St} {i : Nat} {x : Option V} {ws : List Nat} (h : i ∈ ws) : wipe (σ.set i x) ws = wipe σ ws := by
  apply List.ext_getElem?
  intro k
  rw [wipe_get, wipe_get, List.length_set]
  by_cases hk : k ∈ ws
  · rw [if_pos hk, if_pos hk]
  · rw [if_neg hk, if_neg hk, List.getElem?_set_ne (fun z => hk (by rw [← z]; exact h))]
theorem wipe_wipe (σ : L2.St) (ws : List Nat) : wipe (wipe σ ws) ws = wipe σ ws := by
  apply List.ext_getElem?
  intro k
  rw [wipe_get, wipe_get, wipe_length]
  by_cases hk : k ∈ ws
  · rw [if_pos hk, if_pos hk]
  · rw [if_neg hk]
/-- a frozen value is stored in a slot that is not the def's own list -/
theorem Rep.store {K : PySem.W.Frag} {H0 G0 G H : Hp} {O : List Nat} {σ : L2.St} {ρ : Dv} {i : Nat} {v : V} {d : PyData} (R : Rep K H0 G0 G H O σ ρ) (hi : i ∉ O) (dv : Dp K G v d) : Rep K H0 G0 G H O (σ.set i (some v)) (ρ.set i (some d)) := by
  refine ⟨R.base, by rw [List.length_set, List.length_set]; exact R.len, fun j d' hj e => ?_, fun j d' hj e => ?_, fun a b p ha hb e1 e2 n1 n2 => ?_⟩
  · by_cases h : i = j
    · subst h
      have hl : i < ρ.length := by
        have := (List.getElem?_eq_some_iff.mp e).1
        rwa [List.length_set] at this
      rw [List.getElem?_set_self hl] at e
      cases e
      exact ⟨v, List.getElem?_set_self (by rw [R.len]; exact hl), dv⟩
    · rw [List.getElem?_set_ne h] at e
      obtain ⟨v', h1, h2⟩ := R.fz j d' hj e
      exact ⟨v', by rw [List.getElem?_set_ne h]; exact h1, h2⟩
  · have h : i ≠ j := fun z => hi (by rw [z]; exact hj)
    rw [List.getElem?_set_ne h] at e
    obtain ⟨p, xs, ds, e1, e2, e3, e4, e5, e6⟩ := R.ow j d' hj e
    exact ⟨p, xs, ds, e1, by rw [List.getElem?_set_ne h]; exact e2, e3, e4, e5, e6⟩
  · have h1 : i ≠ a := fun z => hi (by rw [z]; exact ha)
    have h2 : i ≠ b := fun z => hi (by rw [z]; exact hb)
    rw [List.getElem?_set_ne h1] at e1 n1
    rw [List.getElem?_set_ne h2] at e2 n2
    exact R.inj a b p ha hb e1 e2 n1 n2
def tgN (i : Nat) : Tgt := fun d ρ => some (ρ.set i (some d))
theorem tg_n {K : PySem.W.Frag} {i : Nat} (hi : i ∉ O) : TgD K O (gName i) (tgN i) [i] := fun H0 G0 G H σ ρ ρ' v d Q R dv e q => by
  cases e
  exact q _ (R.store hi dv) fun ws hw => wipe_set (hw i (by simp))
def tgP (i j : Nat) : Tgt := fun d ρ => match d with | .tuple [a, b] => some ((ρ.set i (some a)).set j (some b)) | _ => none
theorem tg_p {K : PySem.W.Frag} {i j : Nat} (hi : i ∉ O) (hj : j ∉ O) : TgD K O (gTup K 2 (gCons (gName i) (gCons (gName j) gNil))) (tgP i j) [i, j] := fun H0 G0 G H σ ρ ρ' v d Q R dv e q => by
  have hd : ∃ a b, d = .tuple [a, b] ∧ (ρ.set i (some a)).set j (some b) = ρ' := by
    unfold tgP at e
    split at e
    · cases e; exact ⟨_, _, rfl, rfl⟩
    · cases e
  obtain ⟨a, b, rfl, rfl⟩ := hd
  cases dv with
  | tup hq da =>
    cases da with
    | cons d1 t =>
      cases t with
      | cons d2 t =>
        cases t
        exact ⟨_, _, rfl, seqT_same R.gh hq, rfl, _, _, rfl, _, _, rfl, rfl, q _ ((R.store hi d1).store hj d2) fun ws hw => by rw [wipe_set (hw j (by simp)), wipe_set (hw i (by simp))]⟩
def tgT (i j k : Nat) : Tgt := fun d ρ => match d with | .tuple [a, b, c] => some (((ρ.set i (some a)).set j (some b)).set k (some c)) | _ => none

/-! ### comprehensions -/
def wipeD (ρ : Dv) : List Nat → Dv
  | [] => ρ
  | v :: vs => (wipeD ρ vs).set v none
theorem wipeD_length (ρ : Dv) : ∀ vs : List Nat, (wipeD ρ vs).length = ρ.length
  | [] => rfl
  | v :: vs => by unfold wipeD; rw [List.length_set, wipeD_length ρ vs]
theorem wipeD_get (σ : Dv) (k : Nat) : ∀ ws : List Nat, (wipeD σ ws)[k]? = if k ∈ ws then (if k < σ.length then some none else none) else σ[k]?
  | [] => by simp [wipeD]
  | w :: ws => by
    have ih := wipeD_get σ k ws
    unfold wipeD
    by_cases h : w = k
    · subst h
      by_cases hl : w < σ.length
      · rw [List.getElem?_set_self (by rw [wipeD_length]; exact hl)]; simp [hl]
      · rw [List.getElem?_eq_none (by rw [List.length_set, wipeD_length]; omega)]; simp [hl]
    · rw [List.getElem?_set_ne h, ih]
      have : k ∈ w :: ws ↔ k ∈ ws := by simp [List.mem_cons, Ne.symm h]
      by_cases hk : k ∈ ws
      · rw [if_pos hk, if_pos (this.mpr hk)]
      · rw [if_neg hk, if_neg (fun z => hk (this.mp z))]
theorem wipeD_some {ρ : Dv} {k : Nat} {ws : List Nat} {d : PyData} (h : (wipeD ρ ws)[k]? = some (some d)) : k ∉ ws ∧ ρ[k]? = some (some d) := by
  rw [wipeD_get] at h
  by_cases hk : k ∈ ws
  · rw [if_pos hk] at h
    split at h
    · cases h
    · cases h
  · rw [if_neg hk] at h; exact ⟨hk, h⟩
theorem Rep.wiped {K : PySem.W.Frag} {H0 G0 G H : Hp} {σ : L2.St} {ρ : Dv} (R : Rep K H0 G0 G H O σ ρ) (ws : List Nat) : Rep K H0 G0 G H O (wipe σ ws) (wipeD ρ ws) := by
  have ne : ∀ {k : Nat}, k ∉ ws → (wipe σ ws)[k]? = σ[k]? := fun {k} hk => by rw [wipe_get, if_neg hk]
  have sm : ∀ {k : Nat} {v : V}, (wipe σ ws)[k]? = some (some v) → k ∉ ws ∧ σ[k]? = some (some v) := fun {k v} h => by
    by_cases hk : k ∈ ws
    · rw [wipe_get, if_pos hk] at h
      split at h <;> cases h
    · exact ⟨hk, by rw [← ne hk]; exact h⟩
  refine ⟨R.base, by rw [wipe_length, wipeD_length]; exact R.len, fun j d hj e => ?_, fun j d hj e => ?_, fun a b p ha hb e1 e2 n1 n2 => ?_⟩
  · obtain ⟨h1, h2⟩ := wipeD_some e
    obtain ⟨v, h3, h4⟩ := R.fz j d hj h2
    exact ⟨v, by rw [ne h1]; exact h3, h4⟩
  · obtain ⟨h1, h2⟩ := wipeD_some e
    obtain ⟨p, xs, ds, e1, e2, r⟩ := R.ow j d hj h2
    exact ⟨p, xs, ds, e1, by rw [ne h1]; exact e2, r⟩
  · obtain ⟨h1, f1⟩ := sm e1
    obtain ⟨h2, f2⟩ := sm e2
    exact R.inj a b p ha hb f1 f2 (fun z => n1 (by rw [wipeD_get, if_neg h1]; exact z)) (fun z => n2 (by rw [wipeD_get, if_neg h2]; exact z))
def lcGo (tgt : Tgt) (C : Dv → Option Bool) (E : Fd) (ρ : Dv) : List PyData → Option (List PyData)
  | [] => some []
  | d :: ds => (tgt d ρ).bind fun ρ1 => match C ρ1 with
    | some true => (E ρ1).bind fun y => (lcGo tgt C E ρ ds).map (y :: ·)
    | some false => lcGo tgt C E ρ ds
    | none => none
def lcF (Fs : Fl) (vs : List Nat) (tgt : Tgt) (C : Dv → Option Bool) (E : Fd) : Fl := fun ρ => (Fs ρ).bind fun ds => lcGo tgt C E (wipeD ρ vs) ds
def yesT : Dv → Option Bool := fun _ => some true
theorem lc_imp {K : PySem.W.Frag} {Fs : Fl} {vs us : List Nat} {g : TG} {tgt : Tgt} {C : Dv → Option Bool} {E : Fd} (htg : TgD K O g tgt us) (hus : ∀ x, x ∈ us → x ∈ vs) {σ : L2.St} {H : Hp} {Q : VK} (h : RO K O (lcF Fs vs tgt C E) σ H Q) : tLc (RI K O Fs) g (RT K O C) (RD K O E) vs σ H Q := by
  obtain ⟨H0, G0, G, ρ, ys, R, ef, q⟩ := h
  unfold lcF at ef
  cases e1 : Fs ρ with
  | none => rw [e1] at ef; cases ef
  | some ds =>
    rw [e1] at ef
    have ef : lcGo tgt C E (wipeD ρ vs) ds = some ys := ef
    refine ⟨H0, G0, G, ρ, ds, R, e1, fun J G1 H1 s1 it len D hD => ?_⟩
    have gD : G1 D = none := s1.gh.free hD
    refine ⟨fun i m H2 => m = ds.length - i ∧ i ≤ ds.length ∧ ∃ G2 acc done rest, Stp G1 H1 G2 H2 ∧ G2 D = none ∧ H2 D = some (.lst acc) ∧ acc.length ≤ i ∧ DpAll K G2 acc done ∧ lcGo tgt C E (wipeD ρ vs) (ds.drop i) = some rest ∧ ys = done ++ rest,
      ⟨ds.length, by simp, Nat.zero_le _, G1, [], [], ys, Stp.new s1.gh hD, gD, upd_same, Nat.le_refl _, .nil, ef, rfl⟩, ?_⟩
    rintro i m H2 ⟨rfl, hi, G2, acc, done, rest, s2, g2, h2, hl, da, el, ey⟩
    by_cases hlt : i < ds.length
    · refine .inr ⟨it.go i G2 H2 s2.gg s2.gh hlt, fun H' => ds.length - (i + 1) = ds.length - (i + 1) ∧ i + 1 ≤ ds.length ∧ ∃ G2 acc done rest, Stp G1 H1 G2 H' ∧ G2 D = none ∧ H' D = some (.lst acc) ∧ acc.length ≤ i + 1 ∧ DpAll K G2 acc done ∧ lcGo tgt C E (wipeD ρ vs) (ds.drop (i + 1)) = some rest ∧ ys = done ++ rest,
        fun H' w => ⟨_, by omega, w⟩, fun x H3 y => ?_⟩
      obtain ⟨G3, d, s3, hd, dv⟩ := it.yl i G2 H2 x H3 s2.gg s2.gh hlt y
      have ed : ds.drop i = d :: ds.drop (i + 1) := by
        rw [List.drop_eq_getElem_cons hlt]
        congr 1
        rw [List.getElem?_eq_getElem hlt] at hd
        exact Option.some.inj hd
      rw [ed] at el
      simp only [lcGo] at el
      cases e2 : tgt d (wipeD ρ vs) with
      | none => rw [e2] at el; cases el
      | some ρ1 =>
        rw [e2, Option.bind_some] at el
        have hH2 : H2 D ≠ none := by rw [h2]; exact fun z => nomatch z
        have g3 : G3 D = none := s3.sep D hH2 g2
        have h3 : H3 D = some (.lst acc) := s3.hh _ _ h2
        have R3 := (((R.stp s1).stp s2).stp s3).wiped vs
        refine htg H0 G0 G3 H3 _ _ _ x d _ R3 dv e2 fun σ' R' hw => ⟨(hw vs hus).trans (wipe_wipe σ vs), ?_⟩
        cases e3 : C ρ1 with
        | none => rw [e3] at el; cases el
        | some b =>
          rw [e3] at el
          refine ⟨H0, G0, G3, ρ1, b, R', e3, fun G4 H4 s4 => ?_⟩
          have g4 : G4 D = none := s4.sep D (by rw [h3]; exact fun z => nomatch z) g3
          have h4 : H4 D = some (.lst acc) := s4.hh _ _ h3
          have s14 := (s2.trans s3).trans s4
          cases b with
          | false =>
            exact iteF ⟨rfl, hlt, G4, acc, done, rest, s14, g4, h4, by omega, dpAll_mono (s3.gg.trans s4.gg) _ _ da, el, ey⟩
          | true =>
            have el : ((E ρ1).bind fun y => (lcGo tgt C E (wipeD ρ vs) (ds.drop (i + 1))).map (y :: ·)) = some rest := el
            cases e5 : E ρ1 with
            | none => rw [e5] at el; cases el
            | some y1 =>
              rw [e5, Option.bind_some] at el
              cases e6 : lcGo tgt C E (wipeD ρ vs) (ds.drop (i + 1)) with
              | none => rw [e6] at el; cases el
              | some rest' =>
                rw [e6] at el; cases el
                refine iteT ⟨H0, G0, G4, ρ1, y1, R'.stp s4, e5, fun v G5 H5 s5 dv5 => ?_⟩
                have g5 : G5 D = none := s5.sep D (by rw [h4]; exact fun z => nomatch z) g4
                have h5 : H5 D = some (.lst acc) := s5.hh _ _ h4
                have s15 := s14.trans s5
                refine ⟨acc, h5, by omega, rfl, hlt, G5, acc ++ [v], done ++ [y1], rest', ?_, g5, upd_same, by rw [List.length_append, List.length_singleton]; omega, (dpAll_mono ((s3.gg.trans s4.gg).trans s5.gg) _ _ da).append (.cons dv5 .nil), rfl, by rw [ey, List.append_assoc]; rfl⟩
                refine ⟨fun a u z => ?_, s15.gg, fun a u z => ?_, s15.sep⟩
                · rw [upd_ne (ne_of_none z hD)]; exact s15.hh a u z
                · rw [upd_ne (ne_of_none z g5)]; exact s15.gh a u z
    · have hi' : i = ds.length := by omega
      refine .inl ⟨by rw [hi']; exact it.st G2 H2 s2.gg s2.gh, ?_⟩
      rw [hi', List.drop_length] at el
      cases el
      rw [List.append_nil] at ey
      subst ey
      exact q D acc G2 H2 (s1.trans s2) (s1.hh.free hD) g2 h2 da
theorem o_lc {elt iter : Expr} {ifs : List Expr} {scope : Scope} {own : List (Str × Nat)} {Fs : Fl} {us : List Nat} {g : TG} {tgt : Tgt} {C : Dv → Option Bool} {E : Fd} (hc : X.calm = true) (hN : X.N.Nodup) (hi : PI X tg iter (RI X.K O Fs)) (ok : BlkOk X.N X.env.scope scope own)
    (htg : TgD X.K O g tgt us) (hus : ∀ x, x ∈ us → x ∈ own.map (·.2))
    (hg : ∀ (s : Shared) (H : Hp) (C : Addr) (cl : List (Str × Addr)) (fp : List Addr), PG (X.blk s H scope (compEnvC scope cl C X.env) fp) tg g) (ht : ∀ (s : Shared) (H : Hp) (C' : Addr) (cl : List (Str × Addr)) (fp : List Addr), PTs (X.blk s H scope (compEnvC scope cl C' X.env) fp) ifs (RT X.K O C))
    (he : ∀ (s : Shared) (H : Hp) (C : Addr) (cl : List (Str × Addr)) (fp : List Addr), PE (X.blk s H scope (compEnvC scope cl C X.env) fp) elt (RD X.K O E)) (hs : ∀ x, foldedSetIterable iter X.env x = pure x := by intro _; rfl) :
    PE X (.ListComp elt [⟨tg, iter, ifs, 0⟩] scope pos) (RO X.K O (lcF Fs (own.map (·.2)) tgt C E)) :=
  pe_imp (pe_lc hc hN hi ok hg ht he hs) fun σ H Q h => lc_imp htg hus h
theorem ts_nil : PTs X [] (RT X.K O yesT) := ⟨fun pins s σ H Q I ⟨H0, G0, G, ρ, b, R, e, q⟩ => by cases e; exact pts_nil.run pins s σ H Q I (q G H (Stp.refl R.gh))⟩
theorem ts_one {c : Expr} {C : Dv → Option Bool} (h : PT X c (RT X.K O C)) : PTs X [c] (RT X.K O C) := pts_one h
end
end Dat
open PySem PySem.Spec PyProof.Rows L2
namespace Dat

/-! ### statements -/
inductive Res where
  | nx (ρ : Dv) | ret (d : PyData) | brk (ρ : Dv) | ct (ρ : Dv)
abbrev Bs := Dv → Option Res
def Fin' (K : PySem.W.Frag) (H0 G0 : Hp) (O OL : List Nat) (D : Ends) : Res → Prop
  | .nx ρ => ∀ σ G H, Rep K H0 G0 G H O σ ρ → D.nx σ H
  | .ret d => ∀ v G H, Stp G0 H0 G H → Dp K G v d → D.rt v H
  | .brk ρ => ∀ σ G H, Rep K H0 G0 G H OL σ ρ → D.bk σ H
  | .ct ρ => ∀ σ G H, Rep K H0 G0 G H OL σ ρ → D.ct σ H
/-- O: the own lists ahead of it, O': behind it, OL: where a loop's turn ends -/
def RS (K : PySem.W.Frag) (O O' OL : List Nat) (B : Bs) : TS := fun D σ H => ∃ H0 G0 G ρ r, Rep K H0 G0 G H O σ ρ ∧ B ρ = some r ∧ Fin' K H0 G0 O' OL D r
section
variable {X : Cx} {st : Stmt} {rest body : List Stmt} {e a : Expr} {pos pos' : Pos} {O O1 O' OL : List Nat} {F : Fd} {L : Fl} {B B' : Bs} {C : Dv → Option Bool}
theorem ps_imp {t t' : TS} (h : PS X st t) (w : ∀ D σ H, t' D σ H → t D σ H) : PS X st t' := ⟨fun pins s σ H D I q => h.run pins s σ H D I (w _ _ _ q)⟩
theorem pss_imp {t t' : TS} (h : PSs X rest t) (w : ∀ D σ H, t' D σ H → t D σ H) : PSs X rest t' := ⟨fun pins s σ H D I q => h.run pins s σ H D I (w _ _ _ q)⟩
def nopS : Bs := fun ρ => some (.nx ρ)
def seqS (B B' : Bs) : Bs := fun ρ => match B ρ with | some (.nx ρ') => B' ρ' | r => r
theorem s_nil : PSs X [] (RS X.K O O OL nopS) := pss_imp pss_nil fun D σ H ⟨H0, G0, G, ρ, r, R, e, f⟩ => by cases e; exact f σ G H R
theorem s_cons (h : PS X st (RS X.K O O1 OL B)) (h' : PSs X rest (RS X.K O1 O' OL B')) : PSs X (st :: rest) (RS X.K O O' OL (seqS B B')) := pss_imp (pss_cons h h') fun D σ H ⟨H0, G0, G, ρ, r, R, e, f⟩ => by
  unfold seqS at e
  cases q : B ρ with
  | none => rw [q] at e; cases e
  | some z =>
    rw [q] at e
    refine ⟨H0, G0, G, ρ, z, R, q, ?_⟩
    cases z with
    | nx ρ' => exact fun σ' G' H' R' => ⟨H0, G0, G', ρ', r, R', e, f⟩
    | ret d => cases e; exact f
    | brk ρ' => cases e; exact f
    | ct ρ' => cases e; exact f
theorem s_one (h : PS X st (RS X.K O O' OL B)) : PSs X [st] (RS X.K O O' OL B) := pss_one h
theorem s_pass : PS X (.Pass pos) (RS X.K O O OL nopS) := ps_imp ps_pass fun D σ H ⟨H0, G0, G, ρ, r, R, e, f⟩ => by cases e; exact f σ G H R
theorem s_doc {x : Str} {j : Nat} : PS X (.Expr (.Constant (.str x) j pos) pos') (RS X.K O O OL nopS) := ps_imp ps_doc fun D σ H ⟨H0, G0, G, ρ, r, R, e, f⟩ => by cases e; exact f σ G H R
def brkS : Bs := fun ρ => some (.brk ρ)
def ctS : Bs := fun ρ => some (.ct ρ)
theorem s_break : PS X (.Break pos) (RS X.K O O' O brkS) := ps_imp ps_break fun D σ H ⟨H0, G0, G, ρ, r, R, e, f⟩ => by cases e; exact f σ G H R
theorem s_continue : PS X (.Continue pos) (RS X.K O O' O ctS) := ps_imp ps_continue fun D σ H ⟨H0, G0, G, ρ, r, R, e, f⟩ => by cases e; exact f σ G H R
/-- an own list is frozen ahead of a statement -/
theorem s_frz (i : Nat) (h : PS X st (RS X.K (O.filter (fun j => j != i)) O' OL B)) : PS X st (RS X.K O O' OL B) := ps_imp h fun D σ H ⟨H0, G0, G, ρ, r, R, e, f⟩ => by
  obtain ⟨G', _, R'⟩ := R.freeze i
  exact ⟨H0, G0, G', ρ, r, R', e, f⟩
theorem ss_frz (i : Nat) (h : PSs X rest (RS X.K (O.filter (fun j => j != i)) O' OL B)) : PSs X rest (RS X.K O O' OL B) := pss_imp h fun D σ H ⟨H0, G0, G, ρ, r, R, e, f⟩ => by
  obtain ⟨G', _, R'⟩ := R.freeze i
  exact ⟨H0, G0, G', ρ, r, R', e, f⟩
/-- .. behind a block -/
theorem ss_frzE (i : Nat) (h : PSs X rest (RS X.K O O1 OL B)) (e1 : O' = O1.filter (fun j => j != i)) : PSs X rest (RS X.K O O' OL B) := pss_imp h fun D σ H ⟨H0, G0, G, ρ, r, R, e, f⟩ => by
  subst e1
  refine ⟨H0, G0, G, ρ, r, R, e, ?_⟩
  cases r with
  | nx ρ' =>
    intro σ' G' H' R'
    obtain ⟨G2, _, R2⟩ := Rep.freeze R' i
    exact f σ' G2 H' R2
  | ret d => exact f
  | brk ρ' => exact f
  | ct ρ' => exact f
def ifS (C : Dv → Option Bool) (B B' : Bs) : Bs := fun ρ => match C ρ with | some true => B ρ | some false => B' ρ | none => none
theorem s_if {c : Expr} {x y : List Stmt} (hc : PT X c (RT X.K O C)) (h : PSs X x (RS X.K O O' OL B)) (h' : PSs X y (RS X.K O O' OL B')) : PS X (.If c x y pos) (RS X.K O O' OL (ifS C B B')) := ps_imp (ps_if hc h h') fun D σ H ⟨H0, G0, G, ρ, r, R, e, f⟩ => by
  unfold ifS at e
  cases q : C ρ with
  | none => rw [q] at e; cases e
  | some k =>
    rw [q] at e
    cases k with
    | true => exact ⟨H0, G0, G, ρ, true, R, q, fun G' H' s => iteT ⟨H0, G0, G', ρ, r, R.stp s, e, f⟩⟩
    | false => exact ⟨H0, G0, G, ρ, false, R, q, fun G' H' s => iteF ⟨H0, G0, G', ρ, r, R.stp s, e, f⟩⟩
def retS (F : Fd) : Bs := fun ρ => (F ρ).map .ret
theorem s_ret (h : PE X e (RD X.K O F)) : PS X (.Return (some e) pos) (RS X.K O O' OL (retS F)) := ps_imp (ps_ret h) fun D σ H ⟨H0, G0, G, ρ, r, R, er, f⟩ => by
  unfold retS at er
  cases q : F ρ with
  | none => rw [q] at er; cases er
  | some d => rw [q] at er; cases er; exact ⟨H0, G0, G, ρ, d, R, q, fun v G' H' s dv => f v G' H' (R.base.trans s) dv⟩
def retN : Bs := fun _ => some (.ret .none)
theorem s_retN : PS X (.Return none pos) (RS X.K O O' OL retN) := ps_imp ps_retN fun D σ H ⟨H0, G0, G, ρ, r, R, er, f⟩ => by cases er; exact f _ G H R.base .non
/-- .. of an own list -/
theorem s_retV {j : Str} (i : Nat) (h : PE X (.Name j pos') (tVar i)) : PS X (.Return (some (.Name j pos')) pos) (RS X.K O O' OL (retS (vF i))) := s_frz i (s_ret (d_var i h (by simp [List.mem_filter])))
def exS (F : Fd) : Bs := fun ρ => (F ρ).map fun _ => .nx ρ
theorem s_expr (h : PE X e (RD X.K O F)) (hs : swapsWith e none pos.line X.env = pure false := by rfl) : PS X (.Expr e pos) (RS X.K O O OL (exS F)) := ps_imp (ps_expr h hs) fun D σ H ⟨H0, G0, G, ρ, r, R, er, f⟩ => by
  unfold exS at er
  cases q : F ρ with
  | none => rw [q] at er; cases er
  | some d => rw [q] at er; cases er; exact ⟨H0, G0, G, ρ, d, R, q, fun v G' H' s dv => f σ G' H' (R.stp s)⟩
/-! ### x = e -/
def setS (i : Nat) (F : Fd) : Bs := fun ρ => (F ρ).map fun d => .nx (ρ.set i (some d))
theorem setS_some {i : Nat} {ρ : Dv} {r : Res} (h : setS i F ρ = some r) : ∃ d, F ρ = some d ∧ r = .nx (ρ.set i (some d)) := by
  unfold setS at h
  cases q : F ρ with
  | none => rw [q] at h; cases h
  | some d => rw [q] at h; cases h; exact ⟨d, rfl, rfl⟩
theorem set_imp {i : Nat} {te : TE} {D : Ends} {σ : L2.St} {H : Hp} (hi : i ∉ O) (w : ∀ Q, RD X.K O F σ H Q → te σ H Q) (h : RS X.K O O OL (setS i F) D σ H) : tAsg te (gName i) D σ H := by
  obtain ⟨H0, G0, G, ρ, r, R, er, f⟩ := h
  obtain ⟨d, e1, rfl⟩ := setS_some er
  exact w _ ⟨H0, G0, G, ρ, d, R, e1, fun v G' H' s dv => f _ G' H' ((R.stp s).store hi dv)⟩
theorem s_set {i : Nat} {x : Str} (hN : X.N.Nodup) (hi : X.N[i]? = some x) (hx : Loc X.env.scope x) (hO : i ∉ O) (he : PE X e (RD X.K O F)) (hs : swapsWith e (some (.Name x pos')) pos.line X.env = pure false := by rfl) (hf : X.fn x = true ∨ X.env.scope.names.lookup x = some .local := by first | exact .inl rfl | exact .inr rfl | assumption) :
    PS X (.Assign [.Name x pos'] e pos) (RS X.K O O OL (setS i F)) := ps_imp (ps_set hN hi hx he hs hf) fun D σ H h => set_imp hO (fun Q h' => h') h
def setO (i : Nat) (L : Fl) : Bs := setS i (lstF L)
theorem Rep.storeO {K : PySem.W.Frag} {H0 G0 G H : Hp} {σ : L2.St} {ρ : Dv} {i : Nat} {p : Addr} {xs : List V} {ds : List PyData} (R : Rep K H0 G0 G H O σ ρ) (hO : ∀ j, j ∈ O' ↔ j = i ∨ j ∈ O) (n0 : H0 p = none) (g : G p = none) (hp : H p = some (.lst xs)) (da : DpAll K G xs ds)
    (new : ∀ (j : Nat), j ∈ O → j ≠ i → ρ[j]? ≠ some none → σ[j]? ≠ some (some (.ref p))) : Rep K H0 G0 G H O' (σ.set i (some (.ref p))) (ρ.set i (some (.list ds))) := by
  have inO : ∀ {j : Nat}, j ∈ O' → i ≠ j → j ∈ O := fun {j} hj h => by
    rcases (hO j).mp hj with e | e
    · exact absurd e.symm h
    · exact e
  have slot : ∀ {j : Nat} {q : Addr}, i = j → (ρ.set i (some (PyData.list ds)))[j]? ≠ some none → (σ.set i (some (V.ref p)))[j]? = some (some (.ref q)) → q = p := fun {j q} h _ e => by
    subst h
    have hl := (List.getElem?_eq_some_iff.mp e).1
    rw [List.length_set] at hl
    rw [List.getElem?_set_self hl] at e
    cases e; rfl
  refine ⟨R.base, by rw [List.length_set, List.length_set]; exact R.len, fun j d' hj e => ?_, fun j d' hj e => ?_, fun a b q ha hb e1 e2 n1 n2 => ?_⟩
  · have h : i ≠ j := fun z => hj ((hO j).mpr (.inl z.symm))
    rw [List.getElem?_set_ne h] at e
    obtain ⟨v', h1, h2⟩ := R.fz j d' (fun z => hj ((hO j).mpr (.inr z))) e
    exact ⟨v', by rw [List.getElem?_set_ne h]; exact h1, h2⟩
  · by_cases h : i = j
    · subst h
      have hl : i < ρ.length := by
        have := (List.getElem?_eq_some_iff.mp e).1
        rwa [List.length_set] at this
      rw [List.getElem?_set_self hl] at e
      cases e
      exact ⟨p, xs, ds, rfl, List.getElem?_set_self (by rw [R.len]; exact hl), n0, g, hp, da⟩
    · rw [List.getElem?_set_ne h] at e
      obtain ⟨p', xs', ds', e1, e2, e3, e4, e5, e6⟩ := R.ow j d' (inO hj h) e
      exact ⟨p', xs', ds', e1, by rw [List.getElem?_set_ne h]; exact e2, e3, e4, e5, e6⟩
  · by_cases h1 : i = a
    · by_cases h2 : i = b
      · exact h1.symm.trans h2
      · have eq := slot h1 n1 e1
        subst eq
        rw [List.getElem?_set_ne h2] at e2 n2
        exact absurd e2 (new b (inO hb h2) (fun z => h2 z.symm) n2)
    · by_cases h2 : i = b
      · have eq := slot h2 n2 e2
        subst eq
        rw [List.getElem?_set_ne h1] at e1 n1
        exact absurd e1 (new a (inO ha h1) (fun z => h1 z.symm) n1)
      · rw [List.getElem?_set_ne h1] at e1 n1
        rw [List.getElem?_set_ne h2] at e2 n2
        exact R.inj a b q (inO ha h1) (inO hb h2) e1 e2 n1 n2
theorem Rep.own_ne {K : PySem.W.Frag} {H0 G0 G H : Hp} {σ : L2.St} {ρ : Dv} {p : Addr} (R : Rep K H0 G0 G H O σ ρ) (hp : H p = none) (j : Nat) (hj : j ∈ O) (n : ρ[j]? ≠ some none) : σ[j]? ≠ some (some (.ref p)) := fun z => by
  have hl : j < ρ.length := by rw [← R.len]; exact (List.getElem?_eq_some_iff.mp z).1
  cases q : ρ[j]? with
  | none => rw [List.getElem?_eq_none_iff] at q; omega
  | some o =>
    cases o with
    | none => exact n q
    | some d =>
      obtain ⟨p', xs, ds, e1, e2, e3, e4, e5, e6⟩ := R.ow j d hj q
      rw [z] at e2
      cases e2
      rw [hp] at e5; cases e5
theorem seto_imp {i : Nat} {te : TE} {D : Ends} {σ : L2.St} {H : Hp} (hO : ∀ j, j ∈ O' ↔ j = i ∨ j ∈ O) (w : ∀ Q, RO X.K O L σ H Q → te σ H Q) (h : RS X.K O O' OL (setO i L) D σ H) : tAsg te (gName i) D σ H := by
  obtain ⟨H0, G0, G, ρ, r, R, er, f⟩ := h
  obtain ⟨d, e1, rfl⟩ := setS_some er
  unfold lstF at e1
  cases q : L ρ with
  | none => rw [q] at e1; cases e1
  | some ds =>
    rw [q] at e1; cases e1
    exact w _ ⟨H0, G0, G, ρ, ds, R, q, fun p xs G' H' s n g hp da => f _ G' H' ((R.stp s).storeO hO (R.base.hh.free n) g hp da fun j hj _ hn => R.own_ne n j hj hn)⟩
theorem s_setO {i : Nat} {x : Str} (hN : X.N.Nodup) (hi : X.N[i]? = some x) (hx : Loc X.env.scope x) (hO : ∀ j, j ∈ O' ↔ j = i ∨ j ∈ O) (he : PE X e (RO X.K O L)) (hs : swapsWith e (some (.Name x pos')) pos.line X.env = pure false := by rfl) (hf : X.fn x = true ∨ X.env.scope.names.lookup x = some .local := by first | exact .inl rfl | exact .inr rfl | assumption) :
    PS X (.Assign [.Name x pos'] e pos) (RS X.K O O' OL (setO i L)) := ps_imp (ps_set hN hi hx he hs hf) fun D σ H h => seto_imp hO (fun Q h' => h') h
/-- x = [e for ..] on one line, x a plain local -/
theorem s_setLc {i : Nat} {y : Str} {py spos : Pos} {elt iter tg : Expr} {ifs : List Expr} {scope : Scope} {own : List (Str × Nat)} {Fs : Fl} {us : List Nat} {g : TG} {tgt : Tgt} {C : Dv → Option Bool} {E : Fd} (hc : X.calm = true) (hN : X.N.Nodup) (hy : X.N[i]? = some y) (hyl : X.env.scope.names.lookup y = some .local) (hO : i ∉ O)
    (hsw : swapsWith (.ListComp elt [⟨tg, iter, ifs, 0⟩] scope pos) (some (.Name y py)) spos.line X.env = pure true) (hi : PI X tg iter (RI X.K O Fs)) (ok : BlkOk X.N X.env.scope scope own)
    (htg : TgD X.K O g tgt us) (hus : ∀ x, x ∈ us → x ∈ own.map (·.2))
    (hg : ∀ (s : Shared) (H : Hp) (C : Addr) (cl : List (Str × Addr)) (fp : List Addr), PG (X.blk s H scope (compEnvC scope cl C X.env) fp) tg g) (ht : ∀ (s : Shared) (H : Hp) (C' : Addr) (cl : List (Str × Addr)) (fp : List Addr), PTs (X.blk s H scope (compEnvC scope cl C' X.env) fp) ifs (RT X.K O C))
    (he : ∀ (s : Shared) (H : Hp) (C : Addr) (cl : List (Str × Addr)) (fp : List Addr), PE (X.blk s H scope (compEnvC scope cl C X.env) fp) elt (RD X.K O E)) (hs : ∀ x, foldedSetIterable iter X.env x = pure x := by intro _; rfl) :
    PS X (.Assign [.Name y py] (.ListComp elt [⟨tg, iter, ifs, 0⟩] scope pos) spos) (RS X.K O O OL (setS i (lstF (lcF Fs (own.map (·.2)) tgt C E)))) :=
  ps_imp (ps_setLc hc hN hy hyl hsw hi ok hg ht he hs) fun D σ H h => by
    obtain ⟨H0, G0, G, ρ, r, R, er, f⟩ := h
    obtain ⟨d, e1, rfl⟩ := setS_some er
    unfold lstF at e1
    cases q : lcF Fs (own.map (·.2)) tgt C E ρ with
    | none => rw [q] at e1; cases e1
    | some ds =>
      rw [q] at e1; cases e1
      refine lc_imp htg hus ⟨H0, G0, G, ρ, ds, R, q, fun p xs G' H' s n g hp da => ?_⟩
      have s' := s.frz n g hp
      exact f _ _ H' ((R.stp s').store hO (.lst (SqL.of upd_same) (dpAll_mono (fun a u z => by rw [upd_ne (ne_of_none z g)]; exact z) ds xs da)))
theorem s_setLcO {i : Nat} {y : Str} {py spos : Pos} {elt iter tg : Expr} {ifs : List Expr} {scope : Scope} {own : List (Str × Nat)} {Fs : Fl} {us : List Nat} {g : TG} {tgt : Tgt} {C : Dv → Option Bool} {E : Fd} (hc : X.calm = true) (hN : X.N.Nodup) (hy : X.N[i]? = some y) (hyl : X.env.scope.names.lookup y = some .local) (hO : ∀ j, j ∈ O' ↔ j = i ∨ j ∈ O)
    (hsw : swapsWith (.ListComp elt [⟨tg, iter, ifs, 0⟩] scope pos) (some (.Name y py)) spos.line X.env = pure true) (hi : PI X tg iter (RI X.K O Fs)) (ok : BlkOk X.N X.env.scope scope own)
    (htg : TgD X.K O g tgt us) (hus : ∀ x, x ∈ us → x ∈ own.map (·.2))
    (hg : ∀ (s : Shared) (H : Hp) (C : Addr) (cl : List (Str × Addr)) (fp : List Addr), PG (X.blk s H scope (compEnvC scope cl C X.env) fp) tg g) (ht : ∀ (s : Shared) (H : Hp) (C' : Addr) (cl : List (Str × Addr)) (fp : List Addr), PTs (X.blk s H scope (compEnvC scope cl C' X.env) fp) ifs (RT X.K O C))
    (he : ∀ (s : Shared) (H : Hp) (C : Addr) (cl : List (Str × Addr)) (fp : List Addr), PE (X.blk s H scope (compEnvC scope cl C X.env) fp) elt (RD X.K O E)) (hs : ∀ x, foldedSetIterable iter X.env x = pure x := by intro _; rfl) :
    PS X (.Assign [.Name y py] (.ListComp elt [⟨tg, iter, ifs, 0⟩] scope pos) spos) (RS X.K O O' OL (setO i (lcF Fs (own.map (·.2)) tgt C E))) :=
  ps_imp (ps_setLc hc hN hy hyl hsw hi ok hg ht he hs) fun D σ H h => seto_imp hO (fun Q h' => lc_imp htg hus h') h
/-! ### x.append(e), x an own list -/
def appS (i : Nat) (F : Fd) : Bs := fun ρ => match dvGet ρ i, F ρ with
  | some (.list ds), some d => if ds.length < 16777216 then some (.nx (ρ.set i (some (.list (ds ++ [d]))))) else none
  | _, _ => none
theorem appS_some {i : Nat} {ρ : Dv} {r : Res} (h : appS i F ρ = some r) : ∃ ds d, dvGet ρ i = some (.list ds) ∧ F ρ = some d ∧ ds.length < 16777216 ∧ r = .nx (ρ.set i (some (.list (ds ++ [d])))) := by
  unfold appS at h
  split at h
  · rename_i ds d e1 e2
    split at h
    · cases h; exact ⟨ds, d, e1, e2, by assumption, rfl⟩
    · cases h
  · cases h
/-- an own list is changed -/
theorem Rep.change {K : PySem.W.Frag} {H0 G0 G H : Hp} {σ : L2.St} {ρ : Dv} {i : Nat} {p : Addr} {xs : List V} {ds : List PyData} (R : Rep K H0 G0 G H O σ ρ) (hi : i ∈ O) (es : σ[i]? = some (some (.ref p))) (er : ρ[i]? ≠ some none) (n0 : H0 p = none) (g : G p = none) (da : DpAll K G xs ds) :
    Rep K H0 G0 G (upd H p (.lst xs)) O σ (ρ.set i (some (.list ds))) := by
  have hl : i < ρ.length := by rw [← R.len]; exact (List.getElem?_eq_some_iff.mp es).1
  refine ⟨⟨fun a u z => ?_, R.base.gg, fun a u z => ?_, R.base.sep⟩, by rw [List.length_set]; exact R.len, fun j d' hj e => ?_, fun j d' hj e => ?_, fun a b q ha hb e1 e2 n1 n2 => ?_⟩
  · rw [upd_ne (ne_of_none z n0)]; exact R.base.hh a u z
  · rw [upd_ne (ne_of_none z g)]; exact R.gh a u z
  · have h : i ≠ j := fun z => hj (by rw [← z]; exact hi)
    rw [List.getElem?_set_ne h] at e
    exact R.fz j d' hj e
  · by_cases h : i = j
    · subst h
      rw [List.getElem?_set_self hl] at e
      cases e
      exact ⟨p, xs, ds, rfl, es, n0, g, upd_same, da⟩
    · rw [List.getElem?_set_ne h] at e
      obtain ⟨p', xs', ds', e1, e2, e3, e4, e5, e6⟩ := R.ow j d' hj e
      have hne : p' ≠ p := fun z => h (R.inj i j p hi hj es (by rw [← z]; exact e2) er (by rw [e]; simp))
      exact ⟨p', xs', ds', e1, e2, e3, e4, by rw [upd_ne hne]; exact e5, e6⟩
  · by_cases h1 : i = a
    · by_cases h2 : i = b
      · exact h1.symm.trans h2
      · rw [List.getElem?_set_ne h2] at n2
        exact R.inj a b q ha hb e1 e2 (by rw [← h1]; exact er) n2
    · rw [List.getElem?_set_ne h1] at n1
      by_cases h2 : i = b
      · exact R.inj a b q ha hb e1 e2 n1 (by rw [← h2]; exact er)
      · rw [List.getElem?_set_ne h2] at n2
        exact R.inj a b q ha hb e1 e2 n1 n2
theorem s_app {y : Str} {apos cpos : Pos} (i : Nat) (hi : i ∈ O)
    (hb : PE X (.Call (.Attribute (.Name y pos') "append" apos) [e] [] cpos) (tBM X.K "list" rAppend (tVar i) (tCons (RD X.K O F) tNil)))
    (hs : swapsWith (.Call (.Attribute (.Name y pos') "append" apos) [e] [] cpos) none pos.line X.env = pure false := by rfl) :
    PS X (.Expr (.Call (.Attribute (.Name y pos') "append" apos) [e] [] cpos) pos) (RS X.K O O OL (appS i F)) := ps_imp (ps_expr hb hs) fun D σ H ⟨H0, G0, G, ρ, r, R, er, f⟩ => by
  obtain ⟨ds, d, e1, e2, hl, rfl⟩ := appS_some er
  have e1' := dvGet_some e1
  obtain ⟨p, xs, ds', f1, f2, f3, f4, f5, f6⟩ := R.ow i _ hi e1'
  cases f1
  refine ⟨_, f2, .inl ⟨rfl, _, SqL.of f5⟩, H0, G0, G, ρ, d, R, e2, fun v G' H' s dv => ?_⟩
  have h5 := s.hh _ _ f5
  have g5 := s.sep p (by rw [f5]; exact fun z => nomatch z) f4
  refine ⟨p, xs, v, rfl, rfl, h5, by rw [f6.length, line_eq]; exact hl, ?_⟩
  exact f σ G' _ ((R.stp s).change hi f2 (by rw [e1']; simp) f3 g5 ((dpAll_mono s.gg _ _ f6).append (.cons dv .nil)))

/-! ### loops -/
/-- the base heap with the frozen part -/
def hun (H0 G : Hp) : Hp := fun a => match H0 a with | some o => some o | none => G a
theorem hun_some {H0 G : Hp} {a : Addr} {o : HO} (h : hun H0 G a = some o) : H0 a = some o ∨ (H0 a = none ∧ G a = some o) := by
  unfold hun at h
  cases q : H0 a with
  | none => rw [q] at h; exact .inr ⟨rfl, h⟩
  | some u => rw [q] at h; exact .inl h
theorem Rep.rebase {K : PySem.W.Frag} {H0 G0 G H : Hp} {σ : L2.St} {ρ : Dv} (R : Rep K H0 G0 G H O σ ρ) : Rep K (hun H0 G) G G H O σ ρ := by
  refine ⟨⟨fun a o e => ?_, Same.refl _, R.gh, fun _ _ e => e⟩, R.len, R.fz, fun i d hi e => ?_, R.inj⟩
  · rcases hun_some e with e | ⟨_, e⟩
    · exact R.base.hh a o e
    · exact R.gh a o e
  · obtain ⟨p, xs, ds, e1, e2, e3, e4, e5, e6⟩ := R.ow i d hi e
    exact ⟨p, xs, ds, e1, e2, by unfold hun; rw [e3]; exact e4, e4, e5, e6⟩
theorem base_back {H0 G0 G H G' H' : Hp} (b : Stp G0 H0 G H) (s : Stp G (hun H0 G) G' H') : Stp G0 H0 G' H' := by
  refine ⟨fun a o e => s.hh a o (by unfold hun; rw [e]), b.gg.trans s.gg, s.gh, fun a n e => ?_⟩
  refine s.sep a (fun z => ?_) (b.sep a n e)
  unfold hun at z
  cases q : H0 a with
  | none => exact n q
  | some u => rw [q] at z; cases z
theorem Rep.back {K : PySem.W.Frag} {H0 G0 G H G' H' : Hp} {σ : L2.St} {ρ : Dv} (b : Stp G0 H0 G H) (R : Rep K (hun H0 G) G G' H' O σ ρ) : Rep K H0 G0 G' H' O σ ρ := by
  refine ⟨base_back b R.base, R.len, R.fz, fun i d hi e => ?_, R.inj⟩
  obtain ⟨p, xs, ds, e1, e2, e3, e4, e5, e6⟩ := R.ow i d hi e
  refine ⟨p, xs, ds, e1, e2, ?_, e4, e5, e6⟩
  unfold hun at e3
  cases q : H0 p with
  | none => rfl
  | some u => rw [q] at e3; cases e3
def forGo (tgt : Tgt) (B : Bs) : List PyData → Dv → Option Res
  | [], ρ => some (.nx ρ)
  | d :: ds, ρ => (tgt d ρ).bind fun ρ1 => match B ρ1 with
    | some (.nx ρ') => forGo tgt B ds ρ'
    | some (.ct ρ') => forGo tgt B ds ρ'
    | some (.brk ρ') => some (.nx ρ')
    | some (.ret d) => some (.ret d)
    | none => none
def forS (Fs : Fl) (tgt : Tgt) (B : Bs) : Bs := fun ρ => (Fs ρ).bind fun ds => forGo tgt B ds ρ
theorem s_for {tg iter : Expr} {Fs : Fl} {g : TG} {tgt : Tgt} {us : List Nat} (hp : PassesOwn (model X.prog X.w) X.A X.env X.xe) (hc : X.calm = true) (hi : PI X tg iter (RI X.K O Fs)) (htg : TgD X.K O g tgt us) (hg : PG X tg g) (hb : PSs X body (RS X.K O O O B))
    (hs : ∀ x, foldedSetIterable iter X.env x = pure x := by intro _; rfl) : PS X (.For tg iter body [] pos) (RS X.K O O OL (forS Fs tgt B)) := ps_imp (ps_for hp hc hi hg hb hs) fun D σ H ⟨H0, G0, G, ρ, r, R, er, f⟩ => by
  unfold forS at er
  cases e1 : Fs ρ with
  | none => rw [e1] at er; cases er
  | some ds =>
    rw [e1] at er
    have er : forGo tgt B ds ρ = some r := er
    refine ⟨H0, G0, G, ρ, ds, R, e1, fun J G1 H1 s1 it len => ?_⟩
    have bs : Stp G0 H0 G1 H1 := (R.stp s1).base
    refine ⟨fun i m σ2 H2 => m = ds.length - i ∧ i ≤ ds.length ∧ ∃ G2 ρ2, Rep X.K (hun H0 G1) G1 G2 H2 O σ2 ρ2 ∧ forGo tgt B (ds.drop i) ρ2 = some r, ⟨ds.length, by simp, Nat.zero_le _, G1, ρ, (R.stp s1).rebase, er⟩, ?_⟩
    rintro i m σ2 H2 ⟨rfl, hle, G2, ρ2, R2, el⟩
    by_cases hlt : i < ds.length
    · refine .inr ⟨it.go i G2 H2 R2.base.gg R2.gh hlt, fun σ' H' => i + 1 ≤ ds.length ∧ ∃ G2 ρ2, Rep X.K (hun H0 G1) G1 G2 H' O σ' ρ2 ∧ forGo tgt B (ds.drop (i + 1)) ρ2 = some r, fun σ' H' w => ⟨ds.length - (i + 1), by omega, rfl, w⟩, fun x H3 y => ?_⟩
      obtain ⟨G3, d, s3, hd, dv⟩ := it.yl i G2 H2 x H3 R2.base.gg R2.gh hlt y
      have ed : ds.drop i = d :: ds.drop (i + 1) := by
        rw [List.drop_eq_getElem_cons hlt]
        congr 1
        rw [List.getElem?_eq_getElem hlt] at hd
        exact Option.some.inj hd
      rw [ed] at el
      simp only [forGo] at el
      cases e2 : tgt d ρ2 with
      | none => rw [e2] at el; cases el
      | some ρ3 =>
        rw [e2, Option.bind_some] at el
        refine htg _ _ G3 H3 _ _ _ x d _ (R2.stp s3) dv e2 fun σ3 R3 _ => ?_
        cases e3 : B ρ3 with
        | none => rw [e3] at el; cases el
        | some z =>
          rw [e3] at el
          refine ⟨_, _, G3, ρ3, z, R3, e3, ?_⟩
          cases z with
          | nx ρ' => exact fun σ' G' H' R' => ⟨hlt, G', ρ', R', el⟩
          | ct ρ' => exact fun σ' G' H' R' => ⟨hlt, G', ρ', R', el⟩
          | brk ρ' => cases el; exact fun σ' G' H' R' => f σ' G' H' (Rep.back bs R')
          | ret d' => cases el; exact fun v G' H' s dv => f v G' H' (base_back bs s) dv
    · have hi' : i = ds.length := by omega
      rw [hi', List.drop_length] at el
      cases el
      exact .inl ⟨by rw [hi']; exact it.st G2 H2 R2.base.gg R2.gh, f σ2 G2 H2 (Rep.back bs R2)⟩
def whGo (C : Dv → Option Bool) (B : Bs) : Nat → Dv → Option Res
  | 0, _ => none
  | n + 1, ρ => match C ρ with
    | some false => some (.nx ρ)
    | some true => match B ρ with
      | some (.nx ρ') => whGo C B n ρ'
      | some (.ct ρ') => whGo C B n ρ'
      | some (.brk ρ') => some (.nx ρ')
      | some (.ret d) => some (.ret d)
      | none => none
    | none => none
theorem s_while {c : Expr} (n : Nat) (hp : PassesOwn (model X.prog X.w) X.A X.env X.xe) (hc : PT X c (RT X.K O C)) (hb : PSs X body (RS X.K O O O B)) : PS X (.While c body [] pos) (RS X.K O O OL (whGo C B n)) := ps_imp (ps_while hp hc hb) fun D σ H ⟨H0, G0, G, ρ, r, R, er, f⟩ => by
  refine ⟨fun m σ H => ∃ G ρ, Rep X.K H0 G0 G H O σ ρ ∧ whGo C B m ρ = some r, ⟨n, G, ρ, R, er⟩, ?_⟩
  rintro m σ2 H2 ⟨G2, ρ2, R2, el⟩
  cases m with
  | zero => cases el
  | succ m =>
    simp only [whGo] at el
    cases e1 : C ρ2 with
    | none => rw [e1] at el; cases el
    | some b =>
      rw [e1] at el
      refine ⟨H0, G0, G2, ρ2, b, R2, e1, fun G3 H3 s3 => ?_⟩
      cases b with
      | false => cases el; exact iteF (f σ2 G3 H3 (R2.stp s3))
      | true =>
        refine iteT ⟨fun σ' H' => ∃ G ρ, Rep X.K H0 G0 G H' O σ' ρ ∧ whGo C B m ρ = some r, fun σ' H' w => ⟨m, Nat.lt_succ_self m, w⟩, ?_⟩
        cases e3 : B ρ2 with
        | none => rw [e3] at el; cases el
        | some z =>
          rw [e3] at el
          refine ⟨H0, G0, G3, ρ2, z, R2.stp s3, e3, ?_⟩
          cases z with
          | nx ρ' => exact fun σ' G' H' R' => ⟨G', ρ', R', el⟩
          | ct ρ' => exact fun σ' G' H' R' => ⟨G', ρ', R', el⟩
          | brk ρ' => cases el; exact fun σ' G' H' R' => f σ' G' H' R'
          | ret d' => cases el; exact fun v G' H' s dv => f v G' H' s dv

/-! ### defs -/
def spD (K : PySem.W.Frag) (f : List PyData → Option PyData) : Sp := fun vs H Q _ => ∃ G ds d, Same G H ∧ DpAll K G vs ds ∧ f ds = some d ∧ ∀ v G' H', Stp G H G' H' → Dp K G' v d → Q v H'
def env0 (n : Nat) (ds : List PyData) : Dv := ds.map some ++ List.replicate (n - ds.length) none
/-- n slots, k parameters -/
def runF (n k : Nat) (B : Bs) (ds : List PyData) : Option PyData := if ds.length = k then (match B (env0 n ds) with | some (.ret d) => some d | some (.nx _) => some .none | _ => none) else none
theorem rep_start {K : PySem.W.Frag} {G H : Hp} {N : List Str} {vs : List V} {ds : List PyData} (gh : Same G H) (da : DpAll K G vs ds) (hl : vs.length ≤ N.length) : Rep K H G G H [] (L2.start N vs) (env0 N.length ds) := by
  refine ⟨Stp.refl gh, ?_, fun i d _ e => ?_, fun i d hi => ?_, fun a b p ha => ?_⟩
  · unfold L2.start env0
    simp only [List.length_append, List.length_map, List.length_replicate, da.length]
  · unfold env0 at e
    by_cases h : i < ds.length
    · rw [List.getElem?_append_left (by rw [List.length_map]; exact h), List.getElem?_map] at e
      cases q : ds[i]? with
      | none => rw [q] at e; cases e
      | some d' =>
        rw [q] at e; cases e
        obtain ⟨v, h1, h2⟩ := da.get q
        refine ⟨v, ?_, h2⟩
        unfold L2.start
        rw [List.getElem?_append_left (by rw [List.length_map, da.length]; exact h), List.getElem?_map, h1]
        rfl
    · rw [List.getElem?_append_right (by rw [List.length_map]; omega), List.getElem?_replicate] at e
      split at e <;> cases e
  · cases hi
  · cases ha
theorem runF_some {n k : Nat} {B : Bs} {ds : List PyData} {d : PyData} (h : runF n k B ds = some d) : ds.length = k ∧ ∃ r, B (env0 n ds) = some r ∧ (r = .ret d ∨ (∃ ρ, r = .nx ρ) ∧ d = .none) := by
  unfold runF at h
  split at h
  · refine ⟨by assumption, ?_⟩
    split at h
    · cases h; exact ⟨_, by assumption, .inl rfl⟩
    · cases h; exact ⟨_, by assumption, .inr ⟨⟨_, rfl⟩, rfl⟩⟩
    · cases h
  · cases h
theorem fn_d {P : Program} {w : World} {K : PySem.W.Frag} {mg : Str → Option Value} {base : Heap} {x qual : Str} {st : Stmt} {f : Addr} {fd : FuncData} {N ps : List Str} {k n np : Nat} {B : Bs} (F : Fun K x qual st f fd) (S : FnScope N ps (defScope st)) (hn : N.length = n) (hnp : ps.length = np) (hle : np ≤ n)
    (hb : ∀ (cdv : Value) (A : Around) (outer : List Env) (s : Shared) (H : Hp) (E : XK), Room k (A.deeper (envOfC qual (defScope st) s.heap.objs.size f cdv)) →
      ∃ O' OL, PSs (cxOf CX0 P w K mg base N qual (defScope st) f cdv A outer s H E).nox (defBody st) (RS K [] O' OL B)) : FnOk P w K mg base CX0 (k + 1) f fd ps (spD K (runF n np B)) := by
  refine F.ok S (fun vs H Q E h => ?_) (fun cdv A outer s H vs Q E hr h => ?_)
  · obtain ⟨G, ds, d, gh, da, ef, _⟩ := h
    rw [da.length, (runF_some ef).1, hnp]
  · obtain ⟨G, ds, d, gh, da, ef, q⟩ := h
    obtain ⟨h1, r, h2, h3⟩ := runF_some ef
    obtain ⟨O', OL, hbody⟩ := hb cdv A outer s H E hr
    refine ⟨_, hbody, H, G, G, env0 n ds, r, ?_, h2, ?_⟩
    · rw [← hn]
      exact rep_start gh da (by rw [da.length, h1]; omega)
    · rcases h3 with rfl | ⟨⟨ρ, rfl⟩, rfl⟩
      · exact fun v G' H' s dv => q v G' H' s dv
      · exact fun σ G' H' R => q _ G' H' R.base .non
theorem FnD.imp {P : Program} {w : World} {K : PySem.W.Frag} {mg : Str → Option Value} {base : Heap} {CX : CXT} {k : Nat} {f : Addr} {fd : FuncData} {ps : List Str} {g g' : List PyData → Option PyData} (F : FnOk P w K mg base CX k f fd ps (spD K g)) (h : ∀ ds d, g' ds = some d → g ds = some d) : FnOk P w K mg base CX k f fd ps (spD K g') :=
  F.imp fun vs H Q E ⟨G, ds, d, gh, da, ef, q⟩ => ⟨G, ds, d, gh, da, h ds d ef, q⟩
section
variable {f : Addr} {fd : FuncData} {ps : List Str} {g : List PyData → Option PyData} {k : Nat} {x : Str} {p : Pos} {es : List Expr}
theorem d_call {CX : CXT} {E : XK} (G : FnOk X.prog X.w X.K X.mg X.base CX k f fd ps (spD X.K g)) (hr : Room k X.A) (hg : Gl X x) (hm : X.mg x = some (.ref f)) (hk : PySem.W.keepIn X.K (.ref f) = true) (hb : Binds X.K fd ps []) (hx : Passes CX X E)
    (ha : PA X (e :: es) (RA X.K O L)) (hdb : (x == ("__debug__" : Str)) = false := by decide) (he : starEach (e :: es) X.env = (false, eval e X.env) :: starEach es X.env := by rfl) (hpl : (backTo pos (starEach es X.env)).any (·.1) = false := by rfl) :
    PE X (.Call (.Name x p) (e :: es) [] pos) (RD X.K O (fL g L)) := pe_imp (pe_call G hr hg hm hk hb .nil hx ha hdb he hpl) fun σ H Q ⟨H0, G0, G, ρ, d, R, ef, q⟩ => by
  obtain ⟨ds, e1, e2⟩ := fL_some ef
  exact ⟨H0, G0, G, ρ, ds, R, e1, fun vs G1 H1 s1 da => ⟨G1, ds, d, s1.gh, by rw [List.append_nil]; exact da, e2, fun v G' H' s dv => q v G' H' (s1.trans s) dv⟩⟩
end
end
end Dat
open PySem PySem.Spec PyProof.Rows L2
namespace Dat
/-! ### what stands at the top -/
structure Here (K : PySem.W.Frag) (mg : Str → Option Value) (x : Str) (st : Stmt) (ps : List Str) (f : Addr) (fd : FuncData) : Prop where
  fn : Fun K x x st f fd
  at_ : mg x = some (.ref f)
  bd : Binds K fd ps []
/-- a def that is known by its function over data -/
def Kd (P : Program) (w : World) (K : PySem.W.Frag) (mg : Str → Option Value) (base : Heap) (x : Str) (k : Nat) (ps : List Str) (g : List PyData → Option PyData) : Prop :=
  ∃ f fd, FnOk P w K mg base CX0 k f fd ps (spD K g) ∧ mg x = some (.ref f) ∧ PySem.W.keepIn K (.ref f) = true ∧ Binds K fd ps []
section
variable {P : Program} {w : World} {K : PySem.W.Frag} {mg : Str → Option Value} {base : Heap} {x : Str} {st : Stmt} {ps : List Str} {f : Addr} {fd : FuncData} {k : Nat} {g g' : List PyData → Option PyData}
theorem kd_of (h : Here K mg x st ps f fd) (F : FnOk P w K mg base CX0 k f fd ps (spD K g)) : Kd P w K mg base x k ps g := ⟨f, fd, F, h.at_, h.fn.kp, h.bd⟩
theorem Kd.imp (h : Kd P w K mg base x k ps g) (q : ∀ ds d, g' ds = some d → g ds = some d) : Kd P w K mg base x k ps g' := by
  obtain ⟨f, fd, F, a, b, c⟩ := h
  exact ⟨f, fd, FnD.imp F q, a, b, c⟩
theorem Kd.mono {j : Nat} (h : Kd P w K mg base x k ps g) (hj : k ≤ j) : Kd P w K mg base x j ps g := by
  obtain ⟨f, fd, F, a, b, c⟩ := h
  exact ⟨f, fd, F.mono hj, a, b, c⟩
/-- a def of which nothing is said -/
theorem Kd.zero (h : Here K mg x st ps f fd) : Kd P w K mg base x k ps (fun _ => none) :=
  ⟨f, fd, ⟨fun vs H Q E q => (by obtain ⟨_, _, _, _, _, z, _⟩ := q; cases z), fun A outer s H args us vs Q E hr he hb hv q => (by obtain ⟨_, _, _, _, _, z, _⟩ := q; cases z)⟩, h.at_, h.fn.kp, h.bd⟩
theorem hu200 {A : Around} (hr : Room k A) : A.units + 200 < cLine := by have := hr.un; omega
theorem here_mk {h : Heap} (X : K.In h) (G : h.Ns mainGlobals mg) {oc : Value} {od an : Option Addr} {osl : Array (Option Value)} {kV doc pm cdv ct : Value}
    (a : PySem.W.nsIn K mainGlobals x = some (some (.ref f))) (l : K.lookup f = some ⟨oc, od, .func (PySem.W.fnOf x x (defArgs st) (defBody st) (defScope st) .none kV doc pm an cdv ct), osl⟩) (c : PySem.W.codeIn K cdv x = true) (k : PySem.W.keepIn K (.ref f) = true)
    (b : ∀ (kV doc pm : Value) (an : Option Addr) (cdv ct : Value) (us : List Value), us.length = ps.length → bindArgs (PySem.W.fnOf x x (defArgs st) (defBody st) (defScope st) .none kV doc pm an cdv ct) ⟨us, []⟩ = pure (ps.zip us)) :
    Here K mg x st ps f (PySem.W.fnOf x x (defArgs st) (defBody st) (defScope st) .none kV doc pm an cdv ct) :=
  have F : Fun K x x st f (PySem.W.fnOf x x (defArgs st) (defBody st) (defScope st) .none kV doc pm an cdv ct) := fun_mk (st := st) l c k
  ⟨F, PySem.W.mg_of X G a, F.binds b⟩
end
section
variable {X : Cx} {e a b : Expr} {es : List Expr} {pos p : Pos} {O : List Nat} {F F' : Fd} {L : Fl} {ps : List Str} {g : List PyData → Option PyData} {k j : Nat} {x : Str}
theorem d_callK (D : Kd X.prog X.w X.K X.mg X.base x k ps g) (hr : Room j X.A) (hj : k ≤ j) (hx : Passes CX0 X E0) (hg : Gl X x) (ha : PA X (e :: es) (RA X.K O L)) (hdb : (x == ("__debug__" : Str)) = false := by decide)
    (he : starEach (e :: es) X.env = (false, eval e X.env) :: starEach es X.env := by rfl) (hpl : (backTo pos (starEach es X.env)).any (·.1) = false := by rfl) : PE X (.Call (.Name x p) (e :: es) [] pos) (RD X.K O (fL g L)) := by
  obtain ⟨f, fd, G, a, b, c⟩ := D
  exact d_call (G.mono hj) hr hg a b c hx ha hdb he hpl
/-- the items of a list or of a tuple -/
def seqA (F : Fd) : Fl := fun ρ => (F ρ).bind fun d => match d with | .list xs => some xs | .tuple xs => some xs | _ => none
theorem i_seq {tg : Expr} (h : PE X e (RD X.K O F)) : PI X tg e (RI X.K O (seqA F)) := ⟨fun pins s σ H R I ⟨H0, G0, G, ρ, ds, Rp, ef, q⟩ => by
  unfold seqA at ef
  cases e1 : F ρ with
  | none => rw [e1] at ef; cases ef
  | some d =>
    rw [e1] at ef
    cases d with
    | list xs => cases ef; exact (i_list h).run pins s σ H R I ⟨H0, G0, G, ρ, ds, Rp, by unfold seqF; rw [e1]; rfl, q⟩
    | tuple xs => cases ef; exact (i_tup h).run pins s σ H R I ⟨H0, G0, G, ρ, ds, Rp, by unfold seqT; rw [e1]; rfl, q⟩
    | none => cases ef
    | bool _ => cases ef
    | int _ => cases ef
    | str _ => cases ef
    | dict _ => cases ef⟩
/-- a list's slice, or a tuple's -/
def dSl (d : PyData) (lo hi : Option Int) : Option PyData := match d with
  | .list xs => some (.list (cutD xs lo hi))
  | .tuple xs => if ¬ (HT.sIx xs.length 0 lo = 0 ∧ HT.sIx xs.length xs.length hi = xs.length) then some (.tuple (cutD xs lo hi)) else none
  | _ => none
theorem d_sl {lo hi : Option Expr} {p2 : Pos} {P P' : Dv → Option (Option Int)} (ha : PE X a (RB X.K O F)) (hl : PO X lo (RP X.K O P)) (hu : PO X hi (RP X.K O P')) : PE X (.Subscript a (.Slice lo hi none p2) pos) (RD X.K O (slF dSl F P P')) :=
  ⟨fun pins s σ H Q I ⟨H0, G0, G, ρ, d, R, ef, q⟩ => by
    obtain ⟨dx, lo, hi, e1, e2, e3, e4⟩ := slF_some ef
    cases dx with
    | list xs =>
      refine (o_d (o_slL ha hl hu)).run pins s σ H Q I ⟨H0, G0, G, ρ, d, R, ?_, q⟩
      unfold lstF slF
      rw [e1, e2, e3]
      exact e4
    | tuple xs =>
      refine (d_slT ha hl hu).run pins s σ H Q I ⟨H0, G0, G, ρ, d, R, ?_, q⟩
      unfold slF
      rw [e1, e2, e3]
      exact e4
    | none => cases e4
    | bool _ => cases e4
    | int _ => cases e4
    | str _ => cases e4
    | dict _ => cases e4⟩
end
/-- the law's promise, from its function over data -/
theorem law_sp {K : PySem.W.Frag} {f : List PyData → Option PyData} (h : ∀ ns : List Int, ns.length ≤ 63 → f [.list (ns.map .int)] = some (.bool true)) {H : Hp} {a : Addr} {ns : List Int} (hl : ns.length ≤ 63) (hS : SqL K H a (ns.map V.int)) (Q : VK) (E : XK) (hq : ∀ H', Q (.bl true) H') : spD K f [.ref a] H Q E := by
  have da : ∀ ms : List Int, DpAll K H (ms.map V.int) (ms.map PyData.int) := fun ms => by
    induction ms with
    | nil => exact .nil
    | cons m ms ih => exact .cons (.int m) ih
  exact ⟨H, _, _, Same.refl _, .cons (.lst hS (da ns)) .nil, h ns hl, fun v G' H' s dv => by cases dv; exact hq H'⟩
end Dat
open PySem PySem.Spec PyProof.Rows L2
namespace Dat
/-! ### evaluating -/
section
variable {ρ : Dv} {F F' F'' : Fd} {L : Fl} {B B' : Bs} {C C' : Dv → Option Bool} {i : Nat}
@[simp] theorem e_seqS : seqS B B' ρ = (match B ρ with | some (.nx ρ') => B' ρ' | r => r) := rfl
@[simp] theorem e_setS : setS i F ρ = (F ρ).map fun d => .nx (ρ.set i (some d)) := rfl
@[simp] theorem e_setO : setO i L ρ = (L ρ).map fun d => .nx (ρ.set i (some (.list d))) := by
  unfold setO setS lstF; cases L ρ <;> rfl
@[simp] theorem e_ifS : ifS C B B' ρ = (match C ρ with | some true => B ρ | some false => B' ρ | none => none) := rfl
@[simp] theorem e_nopS : nopS ρ = some (.nx ρ) := rfl
@[simp] theorem e_retS : retS F ρ = (F ρ).map .ret := rfl
@[simp] theorem e_retN : retN ρ = some (.ret .none) := rfl
@[simp] theorem e_exS : exS F ρ = (F ρ).map fun _ => .nx ρ := rfl
@[simp] theorem e_ctS : ctS ρ = some (.ct ρ) := rfl
@[simp] theorem e_brkS : brkS ρ = some (.brk ρ) := rfl
@[simp] theorem e_f2 {g : PyData → PyData → Option PyData} : f2 g F F' ρ = (F ρ).bind fun x => (F' ρ).bind fun y => g x y := rfl
@[simp] theorem e_f1 {g : PyData → Option PyData} : f1 g F ρ = (F ρ).bind g := rfl
@[simp] theorem e_vF : vF i ρ = (ρ[i]?).join := rfl
@[simp] theorem e_cF {d : PyData} : cF d ρ = some d := rfl
@[simp] theorem e_asB : asB F ρ = (F ρ).bind fun d => match d with | .bool b => some b | _ => none := rfl
@[simp] theorem e_notT : notT C ρ = (C ρ).map (!·) := rfl
@[simp] theorem e_andT : andT C C' ρ = (match C ρ with | some true => C' ρ | some false => some false | none => none) := rfl
@[simp] theorem e_orT : orT C C' ρ = (match C ρ with | some true => some true | some false => C' ρ | none => none) := rfl
@[simp] theorem e_blF : blF C ρ = (C ρ).map .bool := rfl
@[simp] theorem e_andF : andF F F' ρ = (match F ρ with | some (.bool true) => F' ρ | some (.bool false) => some (.bool false) | _ => none) := rfl
@[simp] theorem e_orF : orF F F' ρ = (match F ρ with | some (.bool true) => some (.bool true) | some (.bool false) => F' ρ | _ => none) := rfl
@[simp] theorem e_ifF : ifF C F F' ρ = (match C ρ with | some true => F ρ | some false => F' ρ | none => none) := rfl
@[simp] theorem e_fL {α : Type} {g : List PyData → Option α} : fL g L ρ = (L ρ).bind g := rfl
@[simp] theorem e_consA : consA F L ρ = (F ρ).bind fun d => (L ρ).map fun ds => d :: ds := rfl
@[simp] theorem e_nilA : nilA ρ = some [] := rfl
@[simp] theorem e_tupF : tupF L ρ = (L ρ).bind fun ds => if ds.length ≤ 1000 then some (.tuple ds) else none := by
  unfold tupF few
  cases L ρ with
  | none => rfl
  | some ds => simp only [Option.bind_some]; split <;> rfl
@[simp] theorem e_few : few L ρ = (L ρ).bind fun ds => if ds.length ≤ 1000 then some ds else none := rfl
@[simp] theorem e_lstF : lstF L ρ = (L ρ).map .list := rfl
@[simp] theorem e_chF {g g' : PyData → PyData → Option PyData} : chF g g' F F' F'' ρ = (match f2 g F F' ρ with
  | some (.bool true) => f2 g' F' F'' ρ
  | some (.bool false) => some (.bool false)
  | _ => none) := rfl
@[simp] theorem e_someP : someP F ρ = (F ρ).bind fun d => match d with | .int i => some (some i) | _ => none := by
  unfold someP asI
  cases F ρ with
  | none => rfl
  | some d => cases d <;> rfl
@[simp] theorem e_noP : noP ρ = some none := rfl
@[simp] theorem e_slF {α : Type} {g : PyData → Option Int → Option Int → Option α} {P P' : Dv → Option (Option Int)} : slF g F P P' ρ = (F ρ).bind fun d => (P ρ).bind fun lo => (P' ρ).bind fun hi => g d lo hi := rfl
@[simp] theorem e_seqA : seqA F ρ = (F ρ).bind fun d => match d with | .list xs => some xs | .tuple xs => some xs | _ => none := rfl
@[simp] theorem e_exN {n : Nat} : exN n L ρ = (L ρ).bind fun ds => if ds.length = n then some ds else none := rfl
@[simp] theorem e_yesT : yesT ρ = some true := rfl
@[simp] theorem e_enF : enF F ρ = ((F ρ).bind fun d => match d with | .list xs => some xs | _ => none).map numbered := rfl
@[simp] theorem e_forS {Fs : Fl} {tgt : Tgt} : forS Fs tgt B ρ = (Fs ρ).bind fun ds => forGo tgt B ds ρ := rfl
@[simp] theorem e_lcF {Fs : Fl} {vs : List Nat} {tgt : Tgt} {E : Fd} : lcF Fs vs tgt C E ρ = (Fs ρ).bind fun ds => lcGo tgt C E (wipeD ρ vs) ds := rfl
@[simp] theorem e_tgN {d : PyData} : tgN i d ρ = some (ρ.set i (some d)) := rfl
@[simp] theorem e_tgP {j : Nat} {a b : PyData} : tgP i j (.tuple [a, b]) ρ = some ((ρ.set i (some a)).set j (some b)) := rfl
@[simp] theorem e_wipeN : wipeD ρ [] = ρ := rfl
@[simp] theorem e_wipeC {vs : List Nat} : wipeD ρ (i :: vs) = (wipeD ρ vs).set i none := rfl
@[simp] theorem e_appS {ds : List PyData} {d : PyData} : appS i F ρ = (match dvGet ρ i, F ρ with
  | some (.list ds), some d => if ds.length < 16777216 then some (.nx (ρ.set i (some (.list (ds ++ [d]))))) else none
  | _, _ => none) := rfl
@[simp] theorem e_runF {n k : Nat} {ds : List PyData} : runF n k B ds = if ds.length = k then (match B (env0 n ds) with | some (.ret d) => some d | some (.nx _) => some .none | _ => none) else none := rfl
@[simp] theorem e_env0 {n : Nat} {ds : List PyData} : env0 n ds = ds.map some ++ List.replicate (n - ds.length) none := rfl
@[simp] theorem e_dvGet : dvGet ρ i = (ρ[i]?).join := rfl
@[simp] theorem e_dAdd {i j : Int} : dAdd (.int i) (.int j) = some (.int (i + j)) := rfl
@[simp] theorem e_dAddL {xs ys : List PyData} : dAdd (.list xs) (.list ys) = if xs.length + ys.length ≤ 16777216 then some (.list (xs ++ ys)) else none := rfl
@[simp] theorem e_dSub {i j : Int} : dSub (.int i) (.int j) = some (.int (i - j)) := rfl
@[simp] theorem e_dMul {i j : Int} : dMul (.int i) (.int j) = if (-(2 ^ 64) < i ∧ i < 2 ^ 64) ∨ (-(2 ^ 64) < j ∧ j < 2 ^ 64) then some (.int (i * j)) else none := rfl
@[simp] theorem e_dMod {i j : Int} : dMod (.int i) (.int j) = if 0 < j then some (.int (i % j)) else none := rfl
@[simp] theorem e_dDiv {i j : Int} : dDiv (.int i) (.int j) = if 0 < j ∧ j < 1073741824 then some (.int (i / j)) else none := rfl
@[simp] theorem e_dPow {i j : Int} : dPow (.int i) (.int j) = if 0 ≤ j ∧ j ≤ 1000000 ∧ i.natAbs < 2 ^ 64 then some (.int (i ^ j.toNat)) else none := rfl
@[simp] theorem e_dNeg {i : Int} : dNeg (.int i) = some (.int (-i)) := rfl
@[simp] theorem e_dLt {i j : Int} : dLt (.int i) (.int j) = some (.bool (decide (i < j))) := rfl
@[simp] theorem e_dLe {i j : Int} : dLe (.int i) (.int j) = some (.bool (decide (i ≤ j))) := rfl
@[simp] theorem e_dGt {i j : Int} : dGt (.int i) (.int j) = some (.bool (decide (j < i))) := rfl
@[simp] theorem e_dGe {i j : Int} : dGe (.int i) (.int j) = some (.bool (decide (j ≤ i))) := rfl
@[simp] theorem e_dIxL {xs : List PyData} {i : Int} : dIx (.list xs) (.int i) = atI xs i := rfl
@[simp] theorem e_dIxT {xs : List PyData} {i : Int} : dIx (.tuple xs) (.int i) = atI xs i := rfl
@[simp] theorem e_lenL {xs : List PyData} : dLen [.list xs] = some (.int xs.length) := rfl
@[simp] theorem e_lenT {xs : List PyData} : dLen [.tuple xs] = some (.int xs.length) := rfl
@[simp] theorem e_dListL {xs : List PyData} : dList [.list xs] = some xs := rfl
@[simp] theorem e_dListT {xs : List PyData} : dList [.tuple xs] = some xs := rfl
@[simp] theorem e_dTupleL {xs : List PyData} : dTuple [.list xs] = some (.tuple xs) := rfl
@[simp] theorem e_dTupleT {xs : List PyData} : dTuple [.tuple xs] = some (.tuple xs) := rfl
@[simp] theorem e_dIsi {f : PyData → Bool} {d : PyData} : dIsi f d = some (.bool (f d)) := rfl
@[simp] theorem e_intB {b : Bool} : dInt [.bool b] = some (.int (if b then 1 else 0)) := rfl
@[simp] theorem e_intI {i : Int} : dInt [.int i] = some (.int i) := rfl
@[simp] theorem e_eqI {i j : Int} : dEq (.int i) (.int j) = some (.bool (decide (i = j))) := by
  unfold dEq
  rw [if_pos (.inl rfl)]
  simp only [PyData.eqv, Bool.beq_eq_decide_eq]
@[simp] theorem e_neI {i j : Int} : dNe (.int i) (.int j) = some (.bool (!decide (i = j))) := by
  unfold dNe
  rw [if_pos (.inl rfl)]
  simp only [PyData.eqv, Bool.beq_eq_decide_eq]
@[simp] theorem e_eqS {i j : Str} : dEq (.str i) (.str j) = some (.bool (decide (i = j))) := by
  unfold dEq
  rw [if_pos (.inl rfl)]
  simp only [PyData.eqv, Bool.beq_eq_decide_eq]
@[simp] theorem e_neS {i j : Str} : dNe (.str i) (.str j) = some (.bool (!decide (i = j))) := by
  unfold dNe
  rw [if_pos (.inl rfl)]
  simp only [PyData.eqv, Bool.beq_eq_decide_eq]
@[simp] theorem e_isList {xs : List PyData} : PyData.isList (.list xs) = true := rfl
@[simp] theorem e_isTuple {xs : List PyData} : PyData.isTuple (.tuple xs) = true := rfl
@[simp] theorem e_isStr {x : Str} : PyData.isStr (.str x) = true := rfl
@[simp] theorem e_isInt {x : Int} : PyData.isInt (.int x) = true := rfl
@[simp] theorem e_isBool {x : Int} : PyData.isBool (.int x) = false := rfl
@[simp] theorem e_isBoolB {x : Bool} : PyData.isBool (.bool x) = true := rfl
@[simp] theorem e_range1 {j : Int} : dRange [.int j] = if j ≤ 16777216 ∧ -16777216 ≤ j then some (upFrom 0 j.toNat) else none := rfl
@[simp] theorem e_range2 {i j : Int} : dRange [.int i, .int j] = if j ≤ 16777216 ∧ -16777216 ≤ i ∧ i ≤ 16777216 ∧ -16777216 ≤ j ∧ j - i ≤ 16777216 then some (upFrom i (j - i).toNat) else none := rfl
end

/-! ### lists by place -/
theorem atI_map {α β : Type} (f : α → β) (xs : List α) (i : Int) : atI (xs.map f) i = (atI xs i).map f := by
  unfold atI
  rw [List.length_map]
  cases ixN xs.length i with
  | none => rfl
  | some j => simp
theorem atI_of {α : Type} {xs : List α} {i : Int} {j : Nat} {v : α} (h : i = (j : Int)) (e : xs[j]? = some v) : atI xs i = some v := by
  rw [h]; exact atI_nat e
@[simp] theorem at0 {α : Type} {a : α} {r : List α} : atI (a :: r) 0 = some a := atI_nat (j := 0) rfl
@[simp] theorem at1 {α : Type} {a b : α} {r : List α} : atI (a :: b :: r) 1 = some b := atI_nat (j := 1) rfl
@[simp] theorem at2 {α : Type} {a b c : α} {r : List α} : atI (a :: b :: c :: r) 2 = some c := atI_nat (j := 2) rfl

/-! ### comprehensions -/
theorem lc_map {tgt : Tgt} {E : Fd} {ρ : Dv} {α : Type} (enc g : α → PyData) : ∀ (xs : List α), (∀ x, x ∈ xs → (tgt (enc x) ρ).bind E = some (g x)) → lcGo tgt yesT E ρ (xs.map enc) = some (xs.map g)
  | [], _ => rfl
  | x :: xs, h => by
    have h1 := h x (by simp)
    have ih := lc_map enc g xs fun y hy => h y (by simp [hy])
    rw [List.map_cons]
    unfold lcGo
    cases e : tgt (enc x) ρ with
    | none => rw [e] at h1; cases h1
    | some ρ1 =>
      rw [e, Option.bind_some] at h1
      simp [h1, ih]
theorem lc_range {tgt : Tgt} {E : Fd} {ρ : Dv} (lo : Int) (n : Nat) (g : Nat → PyData) (h : ∀ k, k < n → (tgt (.int (lo + k)) ρ).bind E = some (g k)) : lcGo tgt yesT E ρ (upFrom lo n) = some ((List.range n).map g) :=
  lc_map (fun k : Nat => PyData.int (lo + k)) g (List.range n) fun k hk => h k (List.mem_range.mp hk)
theorem lc_filter {tgt : Tgt} {C : Dv → Option Bool} {E : Fd} {ρ : Dv} {α : Type} (enc g : α → PyData) (p : α → Bool) : ∀ (xs : List α), (∀ x, x ∈ xs → ∃ ρ1, tgt (enc x) ρ = some ρ1 ∧ C ρ1 = some (p x) ∧ (p x = true → E ρ1 = some (g x))) → lcGo tgt C E ρ (xs.map enc) = some ((xs.filter p).map g)
  | [], _ => rfl
  | x :: xs, h => by
    obtain ⟨ρ1, h1, h2, h3⟩ := h x (by simp)
    have ih := lc_filter enc g p xs fun y hy => h y (by simp [hy])
    rw [List.map_cons]
    unfold lcGo
    rw [h1, Option.bind_some, h2]
    cases e : p x with
    | true => simp [h3 e, ih, List.filter_cons, e]
    | false => simp [ih, List.filter_cons, e]

/-! ### the loops -/
/-- a loop whose every turn goes on -/
theorem for_go {tgt : Tgt} {B : Bs} {α S : Type} (enc : α → PyData) (R : S → Dv) (f : S → α → S) (Inv : List α → S → Prop) (all : List α)
    (h : ∀ pre x post s, all = pre ++ x :: post → Inv pre s → Inv (pre ++ [x]) (f s x) ∧ ((tgt (enc x) (R s)).bind B = some (.nx (R (f s x))) ∨ (tgt (enc x) (R s)).bind B = some (.ct (R (f s x))))) :
    ∀ (pre post : List α) (s : S), all = pre ++ post → Inv pre s → forGo tgt B (post.map enc) (R s) = some (.nx (R (post.foldl f s))) ∧ Inv all (post.foldl f s)
  | pre, [], s, e, i => ⟨rfl, by rw [e, List.append_nil]; exact i⟩
  | pre, x :: post, s, e, i => by
    obtain ⟨i2, h2⟩ := h pre x post s e i
    have ih := for_go enc R f Inv all h (pre ++ [x]) post (f s x) (by rw [e, List.append_assoc]; rfl) i2
    refine ⟨?_, ih.2⟩
    rw [List.map_cons]
    unfold forGo
    cases q : tgt (enc x) (R s) with
    | none => rw [q] at h2; simp at h2
    | some ρ1 =>
      rw [q, Option.bind_some] at h2
      rcases h2 with h2 | h2 <;> simp [h2, ih.1]
end Dat
open PySem PySem.Spec PyProof.Rows L2
namespace Dat
/-! ### marks, entries, rows -/
abbrev Mark := Bool × Nat
abbrev Entry := Int × Int
abbrev Row := Int × Mark
def sideS : Bool → Str
  | false => "bank"
  | true => "book"
def eMark (m : Mark) : PyData := .tuple [.str (sideS m.1), .int m.2]
def eEntry (e : Entry) : PyData := .tuple [.int e.1, .int e.2]
def eRow (r : Row) : PyData := .tuple [.int r.1, .str (sideS r.2.1), .int r.2.2]
theorem side_inj {a b : Bool} : sideS a = sideS b ↔ a = b := by
  cases a <;> cases b <;> simp [sideS] <;> decide +kernel
theorem side_bank (a : Bool) : (sideS a = ("bank" : Str)) ↔ a = false := side_inj (b := false)
theorem side_book (a : Bool) : (sideS a = ("book" : Str)) ↔ a = true := side_inj (b := true)
theorem eqv_mark (a b : Mark) : PyData.eqv (eMark a) (eMark b) = decide (a = b) := by
  obtain ⟨a1, a2⟩ := a
  obtain ⟨b1, b2⟩ := b
  simp only [eMark, PyData.eqv, PyData.eqvAll, Bool.and_true]
  rw [Bool.eq_iff_iff]
  simp [side_inj]
  intro _
  omega
theorem eqv_entry (a b : Entry) : PyData.eqv (eEntry a) (eEntry b) = decide (a = b) := by
  obtain ⟨a1, a2⟩ := a
  obtain ⟨b1, b2⟩ := b
  simp only [eEntry, PyData.eqv, PyData.eqvAll, Bool.and_true]
  rw [Bool.eq_iff_iff]
  simp
theorem eqvAll_map {α : Type} [DecidableEq α] {enc : α → PyData} (h : ∀ a b, PyData.eqv (enc a) (enc b) = decide (a = b)) : ∀ xs ys : List α, PyData.eqvAll (xs.map enc) (ys.map enc) = decide (xs = ys)
  | [], [] => rfl
  | [], _ :: _ => by simp [PyData.eqvAll]
  | _ :: _, [] => by simp [PyData.eqvAll]
  | x :: xs, y :: ys => by
    simp only [List.map_cons, PyData.eqvAll, h, eqvAll_map h xs ys]
    rw [Bool.eq_iff_iff]
    simp
/-! ### depth -/
theorem depthAll_le {xs : List PyData} {n : Nat} (h : ∀ x, x ∈ xs → x.depth ≤ n) : PyData.depthAll xs ≤ n := by
  induction xs with
  | nil => simp [PyData.depthAll]
  | cons x xs ih =>
    simp only [PyData.depthAll]
    have h1 := h x (by simp)
    have h2 := ih fun y hy => h y (by simp [hy])
    omega
theorem depthAll_map {α : Type} {enc : α → PyData} {n : Nat} (h : ∀ a, (enc a).depth ≤ n) (xs : List α) : PyData.depthAll (xs.map enc) ≤ n := depthAll_le fun x hx => by
  obtain ⟨a, _, rfl⟩ := List.mem_map.mp hx
  exact h a
theorem shalL {xs : List PyData} (h : PyData.depthAll xs ≤ 99) : shal (.list xs) = true := by
  unfold shal; simp only [PyData.depth]; exact decide_eq_true (by omega)
theorem shalT {xs : List PyData} (h : PyData.depthAll xs ≤ 99) : shal (.tuple xs) = true := by
  unfold shal; simp only [PyData.depth]; exact decide_eq_true (by omega)
theorem depth_mark (m : Mark) : (eMark m).depth = 1 := by simp [eMark, PyData.depth, PyData.depthAll]
theorem depth_entry (m : Entry) : (eEntry m).depth = 1 := by simp [eEntry, PyData.depth, PyData.depthAll]
theorem depth_row (m : Row) : (eRow m).depth = 1 := by simp [eRow, PyData.depth, PyData.depthAll]
theorem shal_of {d : PyData} {n : Nat} (h : d.depth = n) (hn : n ≤ 100 := by decide) : shal d = true := decide_eq_true (by omega)
theorem shal_map {α : Type} {enc : α → PyData} {n : Nat} (h : ∀ a, (enc a).depth = n) (xs : List α) (hn : n ≤ 99 := by decide) : shal (.list (xs.map enc)) = true := shalL (Nat.le_trans (depthAll_map (fun a => Nat.le_of_eq (h a)) xs) hn)
theorem shal_mapT {α : Type} {enc : α → PyData} {n : Nat} (h : ∀ a, (enc a).depth = n) (xs : List α) (hn : n ≤ 99 := by decide) : shal (.tuple (xs.map enc)) = true := shalT (Nat.le_trans (depthAll_map (fun a => Nat.le_of_eq (h a)) xs) hn)
/-- lists of alike things compared -/
theorem eq_lists {α : Type} [DecidableEq α] {enc : α → PyData} {n : Nat} (h : ∀ a b, PyData.eqv (enc a) (enc b) = decide (a = b)) (hd : ∀ a, (enc a).depth = n) (xs ys : List α) (hn : n ≤ 99 := by decide) : dEq (.list (xs.map enc)) (.list (ys.map enc)) = some (.bool (decide (xs = ys))) := by
  unfold dEq
  rw [if_pos (.inl (shal_map hd xs hn))]
  simp only [PyData.eqv, eqvAll_map h]
theorem ne_lists {α : Type} [DecidableEq α] {enc : α → PyData} {n : Nat} (h : ∀ a b, PyData.eqv (enc a) (enc b) = decide (a = b)) (hd : ∀ a, (enc a).depth = n) (xs ys : List α) (hn : n ≤ 99 := by decide) : dNe (.list (xs.map enc)) (.list (ys.map enc)) = some (.bool (!decide (xs = ys))) := by
  unfold dNe
  rw [if_pos (.inl (shal_map hd xs hn))]
  simp only [PyData.eqv, eqvAll_map h]
theorem any_map {α : Type} [DecidableEq α] {enc : α → PyData} (h : ∀ a b, PyData.eqv (enc a) (enc b) = decide (a = b)) (xs : List α) (x : α) : anyEq (xs.map enc) (enc x) = decide (x ∈ xs) := by
  unfold anyEq
  rw [List.any_map, Bool.eq_iff_iff, List.any_eq_true]
  constructor
  · rintro ⟨y, hy, e⟩
    have e' : y = x := by simpa [h] using e
    subst e'; simpa using hy
  · intro hx
    exact ⟨x, by simpa using hx, by simp [h]⟩
theorem in_list {α : Type} [DecidableEq α] {enc : α → PyData} {n : Nat} (h : ∀ a b, PyData.eqv (enc a) (enc b) = decide (a = b)) (hd : ∀ a, (enc a).depth = n) (xs : List α) (x : α) (hn : n ≤ 99 := by decide) : dIn (enc x) (.list (xs.map enc)) = some (.bool (decide (x ∈ xs))) := by
  unfold dIn
  simp only
  rw [if_pos (.inl (shal_map hd xs hn)), any_map h]
theorem notIn_list {α : Type} [DecidableEq α] {enc : α → PyData} {n : Nat} (h : ∀ a b, PyData.eqv (enc a) (enc b) = decide (a = b)) (hd : ∀ a, (enc a).depth = n) (xs : List α) (x : α) (hn : n ≤ 99 := by decide) : dNotIn (enc x) (.list (xs.map enc)) = some (.bool (!decide (x ∈ xs))) := by
  unfold dNotIn
  simp only
  rw [if_pos (.inl (shal_map hd xs hn)), any_map h]
theorem in_tup {α : Type} [DecidableEq α] {enc : α → PyData} {n : Nat} (h : ∀ a b, PyData.eqv (enc a) (enc b) = decide (a = b)) (hd : ∀ a, (enc a).depth = n) (xs : List α) (x : α) (hn : n ≤ 99 := by decide) : dIn (enc x) (.tuple (xs.map enc)) = some (.bool (decide (x ∈ xs))) := by
  unfold dIn
  simp only
  rw [if_pos (.inl (shal_mapT hd xs hn)), any_map h]
theorem notIn_tup {α : Type} [DecidableEq α] {enc : α → PyData} {n : Nat} (h : ∀ a b, PyData.eqv (enc a) (enc b) = decide (a = b)) (hd : ∀ a, (enc a).depth = n) (xs : List α) (x : α) (hn : n ≤ 99 := by decide) : dNotIn (enc x) (.tuple (xs.map enc)) = some (.bool (!decide (x ∈ xs))) := by
  unfold dNotIn
  simp only
  rw [if_pos (.inl (shal_mapT hd xs hn)), any_map h]

/-! ### the order of tuples -/
def ltAll (xs ys : List PyData) : Bool := PyProof.Rows.lexLt itemOrd (PySem.W.keyToksAll xs) (PySem.W.keyToksAll ys)
theorem lt_tuple (xs ys : List PyData) : PySem.W.dataLt (.tuple xs) (.tuple ys) = ltAll xs ys := PySem.W.dataLt_tuple xs ys
theorem ltAll_nil : ltAll [] [] = false := by
  unfold ltAll
  cases h : PyProof.Rows.lexLt itemOrd (PySem.W.keyToksAll []) (PySem.W.keyToksAll []) with
  | false => rfl
  | true => simp [PySem.W.keyToksAll, PyProof.Rows.lexLt] at h <;> revert h <;> decide
theorem ltAll_nilC {y : PyData} {ys : List PyData} : ltAll [] (y :: ys) = true := by
  unfold ltAll
  rw [PySem.W.toks_all_cons]
  simp only [PySem.W.keyToksAll]
  rw [PySem.W.lex_atom (by simp) _ _]
  decide
theorem ltAll_consN {x : PyData} {xs : List PyData} : ltAll (x :: xs) [] = false := by
  unfold ltAll
  rw [PySem.W.toks_all_cons]
  simp only [PySem.W.keyToksAll]
  rw [PySem.W.lex_atom (by simp) _ _]
  decide
theorem ltAll_cons {x y : PyData} {xs ys : List PyData} (h : PySem.W.alike x y = true) : ltAll (x :: xs) (y :: ys) = if PyData.eqv x y = true then ltAll xs ys else PySem.W.dataLt x y := by
  unfold ltAll
  cases e : PyData.eqv x y with
  | true => rw [PySem.W.dataLt_all_yes h e]; simp
  | false => rw [PySem.W.dataLt_all_no h e]; simp
/-- an earlier row -/
def rowLt (a b : Row) : Bool := decide (a.1 < b.1 ∨ (a.1 = b.1 ∧ ((a.2.1 = false ∧ b.2.1 = true) ∨ (a.2.1 = b.2.1 ∧ a.2.2 < b.2.2))))
theorem lt_side (a b : Bool) : PySem.W.dataLt (.str (sideS a)) (.str (sideS b)) = decide (a = false ∧ b = true) := by
  rw [PySem.W.dataLt_str]
  cases a <;> cases b <;> decide +kernel
theorem lt_row (a b : Row) : PySem.W.dataLt (eRow a) (eRow b) = rowLt a b := by
  obtain ⟨a1, a2, a3⟩ := a
  obtain ⟨b1, b2, b3⟩ := b
  unfold eRow rowLt
  rw [lt_tuple, ltAll_cons rfl, ltAll_cons rfl, ltAll_cons rfl, ltAll_nil]
  simp only [PyData.eqv, PySem.W.dataLt_int, lt_side]
  rw [Bool.eq_iff_iff]
  by_cases h1 : a1 = b1
  · subst h1
    by_cases h2 : a2 = b2
    · subst h2
      by_cases h3 : a3 = b3
      · subst h3; simp
      · have h4 : ¬ ((a3 : Int) = b3) := by omega
        cases a2 <;> simp [h4]
    · have h4 : ¬ (sideS a2 = sideS b2) := fun z => h2 (side_inj.mp z)
      cases a2 <;> cases b2 <;> simp_all
  · simp [h1]
def rowLe (a b : Row) : Bool := !rowLt b a
theorem alike_row (a b : Row) : PySem.W.alike (eRow a) (eRow b) = true := by simp [eRow, PySem.W.alike, PySem.W.alikeAll]
theorem rowLt_trans {a b c : Row} (h : rowLe a b = true) (h' : rowLe b c = true) : rowLe a c = true := by
  obtain ⟨a1, a2, a3⟩ := a
  obtain ⟨b1, b2, b3⟩ := b
  obtain ⟨c1, c2, c3⟩ := c
  simp only [rowLe, rowLt, Bool.not_eq_true', decide_eq_false_iff_not] at *
  cases a2 <;> cases b2 <;> cases c2 <;> simp at * <;> omega
theorem rowLe_total (a b : Row) : (rowLe a b || rowLe b a) = true := by
  obtain ⟨a1, a2, a3⟩ := a
  obtain ⟨b1, b2, b3⟩ := b
  simp only [rowLe, rowLt, Bool.or_eq_true, Bool.not_eq_true', decide_eq_false_iff_not]
  cases a2 <;> cases b2 <;> simp <;> omega
theorem rowLt_of {a b : Row} (h : rowLe a b = true) (hn : a.2 ≠ b.2) : rowLt a b = true := by
  obtain ⟨a1, a2, a3⟩ := a
  obtain ⟨b1, b2, b3⟩ := b
  simp only [rowLe, rowLt, Bool.not_eq_true', decide_eq_false_iff_not, decide_eq_true_eq] at *
  cases a2 <;> cases b2 <;> simp at * <;> omega
/-- all rows: a day, a mark -/
def rowsOf (s : Bool) (es : List Entry) : List Row := es.mapIdx fun i e => (e.1, (s, i))
def rows (banks books : List Entry) : List Row := rowsOf false banks ++ rowsOf true books
def sortedRows (banks books : List Entry) : List Row := (rows banks books).mergeSort rowLe
theorem rowsOf_marks (s : Bool) (es : List Entry) : (rowsOf s es).map (·.2) = (List.range es.length).map fun i => (s, i) := by
  apply List.ext_getElem?
  intro i
  simp only [rowsOf, List.getElem?_map, List.getElem?_mapIdx]
  by_cases h : i < es.length
  · simp [h]
  · simp [h, List.getElem?_eq_none (Nat.le_of_not_lt h)]
theorem rows_nodup (banks books : List Entry) : ((rows banks books).map (·.2)).Nodup := by
  unfold rows
  rw [List.map_append, rowsOf_marks, rowsOf_marks, List.nodup_append]
  refine ⟨?_, ?_, ?_⟩
  · exact (List.nodup_range).map (f := fun i => (false, i)) fun a b h => by simpa using h
  · exact (List.nodup_range).map (f := fun i => (true, i)) fun a b h => by simpa using h
  · intro a ha b hb e
    obtain ⟨i, _, rfl⟩ := List.mem_map.mp ha
    obtain ⟨j, _, rfl⟩ := List.mem_map.mp hb
    cases e
theorem sorted_strict (banks books : List Entry) : (sortedRows banks books).Pairwise fun a b => rowLt a b = true := by
  have h1 : (sortedRows banks books).Pairwise fun a b => rowLe a b = true := List.pairwise_mergeSort (le := rowLe) (fun _ _ _ => rowLt_trans) rowLe_total _
  have h2 : ((sortedRows banks books).map (·.2)).Nodup := ((List.mergeSort_perm _ _).map _).nodup_iff.mpr (rows_nodup banks books)
  have h3 : (sortedRows banks books).Pairwise fun a b => a.2 ≠ b.2 := List.pairwise_map.mp h2
  exact (h1.and h3).imp fun ⟨x, y⟩ => rowLt_of x y
theorem sort_rows (rs : List Row) : dSorted [.list (rs.map eRow)] = some ((rs.mergeSort rowLe).map eRow) := by
  unfold dSorted
  have hok : sortOk (rs.map eRow) = true := by
    unfold sortOk
    simp only [Bool.and_eq_true, Bool.or_eq_true, List.all_eq_true, List.mem_map]
    refine ⟨⟨?_, .inl ?_⟩, ?_⟩
    · rintro x ⟨a, _, rfl⟩ y ⟨b, _, rfl⟩; exact alike_row a b
    · rintro x ⟨a, _, rfl⟩; rfl
    · rintro x ⟨a, _, rfl⟩; exact shal_of (depth_row a)
  simp only [hok, if_true]
  congr 1
  refine (PySem.W.sort_maps eRow fun a _ b _ => ?_).symm
  rw [PySem.W.dataLe_eq]
  simp only [id, cond_false, lt_row, rowLe]
theorem num_map {α : Type} (enc : α → PyData) (xs : List α) : numbered (xs.map enc) = (xs.mapIdx fun i x => (i, x)).map fun p => .tuple [.int p.1, enc p.2] := by
  apply List.ext_getElem?
  intro i
  simp [numbered, List.getElem?_mapIdx]
  cases xs[i]? <;> rfl
end Dat
open PySem PySem.Spec PyProof.Rows L2
namespace Dat
def top (i : Nat) : Stmt := PySem.Challenge.pw_tickoff_k01_in_order.main.body.getD i (.Pass ⟨0, 0, 0, 0⟩)
section
variable {P : Program} {w : World} {K : PySem.W.Frag} {mg : Str → Option Value} {base : Heap}
abbrev s_in_order : Stmt := top 1
abbrev N_in_order : List Str := ["banks", "books", "rows", "place", "entry", "row"]
theorem sc_in_order : FnScope N_in_order ["banks", "books"] (defScope s_in_order) := ⟨rfl, rfl, rfl, by decide +kernel, rfl, by decide +kernel, by decide +kernel⟩
def B_in_order : Bs := (seqS (setS 2 (lstF (lcF (enF (vF 0)) [3, 4] (tgP 3 4) yesT (tupF (consA (f2 dIx (vF 4) (cF (.int 0))) (consA (cF (.str "bank")) (consA (vF 3) nilA))))))) (seqS (setS 2 (f2 dAdd (vF 2) (lstF (lcF (enF (vF 1)) [3, 4] (tgP 3 4) yesT (tupF (consA (f2 dIx (vF 4) (cF (.int 0))) (consA (cF (.str "book")) (consA (vF 3) nilA)))))))) (retS (lstF (lcF (seqA (lstF (fL dSorted (consA (vF 2) nilA)))) [5] (tgN 5) yesT (tupF (consA (f2 dIx (vF 5) (cF (.int 1))) (consA (f2 dIx (vF 5) (cF (.int 2))) nilA))))))))
def S_in_order : List PyData → Option PyData := runF 6 2 B_in_order
theorem kd_in_order {f : Addr} {fd : FuncData} (h : Here K mg "in_order" s_in_order ["banks", "books"] f fd) (m_enumerate : mg "enumerate" = none) (m_sorted : mg "sorted" = none)  : Kd P w K mg base "in_order" 1 ["banks", "books"] S_in_order :=
  kd_of h (fn_d h.fn sc_in_order rfl rfl (by decide) fun cdv A outer s H E hr => ⟨[], [], (s_cons (s_setLc (i := 2) (own := [("place", 3), ("entry", 4)]) rfl sc_in_order.nd rfl rfl (by decide) (sw_true rfl rfl rfl (by decide +kernel)) (i_enum (by rfl) m_enumerate (d_var 0 (pv 0) (by decide))) (blkOk_by (own := [("place", 3), ("entry", 4)]) (N := N_in_order) (sc := defScope s_in_order) (by decide +kernel)) (tg_p (by decide) (by decide)) (by decide) (fun _ _ _ _ _ => (pg_tup rfl (pgs_cons (pg_name (i := 3) sc_in_order.nd rfl (by first | exact Or.inl rfl | exact Or.inr rfl)) (pgs_cons (pg_name (i := 4) sc_in_order.nd rfl (by first | exact Or.inl rfl | exact Or.inr rfl)) pgs_nil)))) (fun _ _ _ _ _ => ts_nil) (fun _ _ _ _ _ => (d_tup (a_cons (d_ix (b_var 4 (pv 4)) (d_b d_int) (fun _ _ => rfl)) (a_cons d_str (a_cons (d_var 3 (pv 3) (by decide)) a_nil)))))) (s_cons (s_set (i := 2) sc_in_order.nd rfl (by first | exact Or.inl rfl | exact Or.inr rfl) (by decide) (d_op op_dAdd (b_var 2 (pv 2)) (d_b (o_d (o_lc (own := [("place", 3), ("entry", 4)]) rfl sc_in_order.nd (i_enum (by rfl) m_enumerate (d_var 1 (pv 1) (by decide))) (blkOk_by (own := [("place", 3), ("entry", 4)]) (N := N_in_order) (sc := defScope s_in_order) (by decide +kernel)) (tg_p (by decide) (by decide)) (by decide) (fun _ _ _ _ _ => (pg_tup rfl (pgs_cons (pg_name (i := 3) sc_in_order.nd rfl (by first | exact Or.inl rfl | exact Or.inr rfl)) (pgs_cons (pg_name (i := 4) sc_in_order.nd rfl (by first | exact Or.inl rfl | exact Or.inr rfl)) pgs_nil)))) (fun _ _ _ _ _ => ts_nil) (fun _ _ _ _ _ => (d_tup (a_cons (d_ix (b_var 4 (pv 4)) (d_b d_int) (fun _ _ => rfl)) (a_cons d_str (a_cons (d_var 3 (pv 3) (by decide)) a_nil)))))))))) (s_one (s_ret (o_d (o_lc (own := [("row", 5)]) rfl sc_in_order.nd (i_seq (o_d (o_callB (c_sorted (hu200 hr)) (by rfl) m_sorted (by decide +kernel) (ab_cons (b_var 2 (pv 2)) ab_nil)))) (blkOk_by (own := [("row", 5)]) (N := N_in_order) (sc := defScope s_in_order) (by decide +kernel)) (tg_n (by decide)) (by decide) (fun _ _ _ _ _ => (pg_name (i := 5) sc_in_order.nd rfl (by first | exact Or.inl rfl | exact Or.inr rfl))) (fun _ _ _ _ _ => ts_nil) (fun _ _ _ _ _ => (d_tup (a_cons (d_ix (b_var 5 (pv 5)) (d_b d_int) (fun _ _ => rfl)) (a_cons (d_ix (b_var 5 (pv 5)) (d_b d_int) (fun _ _ => rfl)) a_nil))))))))))⟩)
abbrev s__law_cell_at : Stmt := top 3
abbrev N__law_cell_at : List Str := ["_law_script", "_law_k"]
theorem sc__law_cell_at : FnScope N__law_cell_at ["_law_script", "_law_k"] (defScope s__law_cell_at) := ⟨rfl, rfl, rfl, by decide +kernel, rfl, by decide +kernel, by decide +kernel⟩
def B__law_cell_at : Bs := (seqS (ifS (asB (f2 dLt (vF 1) (fL dLen (consA (vF 0) nilA)))) (retS (f2 dIx (vF 0) (vF 1))) nopS) (retS (cF (.int 0))))
def S__law_cell_at : List PyData → Option PyData := runF 2 2 B__law_cell_at
theorem kd__law_cell_at {f : Addr} {fd : FuncData} (h : Here K mg "_law_cell_at" s__law_cell_at ["_law_script", "_law_k"] f fd) (m_len : mg "len" = none)  : Kd P w K mg base "_law_cell_at" 1 ["_law_script", "_law_k"] S__law_cell_at :=
  kd_of h (fn_d h.fn sc__law_cell_at rfl rfl (by decide) fun cdv A outer s H E hr => ⟨[], [], (s_cons (s_if (t_cmp (op_dLt (hu200 hr)) (b_var 1 (pv 1)) (d_b (d_callB c_len (by rfl) m_len (by decide +kernel) (ab_cons (b_var 0 (pv 0)) ab_nil))) (by rfl)) (s_one (s_ret (d_ix (b_var 0 (pv 0)) (b_var 1 (pv 1)) (fun _ _ => rfl)))) s_nil) (s_one (s_ret d_int)))⟩)
abbrev s__law_entry : Stmt := top 4
abbrev N__law_entry : List Str := ["_law_cell", "_law_far", "_law_day_here", "_law_cents"]
theorem sc__law_entry : FnScope N__law_entry ["_law_cell", "_law_far"] (defScope s__law_entry) := ⟨rfl, rfl, rfl, by decide +kernel, rfl, by decide +kernel, by decide +kernel⟩
def B__law_entry : Bs := (seqS (setS 2 (f2 dMod (vF 0) (cF (.int 8)))) (seqS (ifS (asB (vF 1)) (setS 2 (f2 dMod (vF 0) (cF (.int 10000)))) nopS) (seqS (setS 3 (f2 dAdd (cF (.int 1)) (f2 dMod (f2 dDiv (vF 0) (cF (.int 7))) (f2 dPow (cF (.int 10)) (cF (.int 9)))))) (seqS (ifS (asB (f2 dEq (f2 dMod (f2 dDiv (vF 0) (cF (.int 3))) (cF (.int 2))) (cF (.int 1)))) (setS 3 (f1 dNeg (vF 3))) nopS) (retS (tupF (consA (vF 2) (consA (vF 3) nilA))))))))
def S__law_entry : List PyData → Option PyData := runF 4 2 B__law_entry
theorem kd__law_entry {f : Addr} {fd : FuncData} (h : Here K mg "_law_entry" s__law_entry ["_law_cell", "_law_far"] f fd)   : Kd P w K mg base "_law_entry" 1 ["_law_cell", "_law_far"] S__law_entry :=
  kd_of h (fn_d h.fn sc__law_entry rfl rfl (by decide) fun cdv A outer s H E hr => ⟨[], [], (s_cons (s_set (i := 2) sc__law_entry.nd rfl (by first | exact Or.inl rfl | exact Or.inr rfl) (by decide) (d_op op_dMod (b_var 0 (pv 0)) (d_b d_int))) (s_cons (s_if (t_val (d_var 1 (pv 1) (by decide))) (s_one (s_set (i := 2) sc__law_entry.nd rfl (by first | exact Or.inl rfl | exact Or.inr rfl) (by decide) (d_op op_dMod (b_var 0 (pv 0)) (d_b d_int)))) s_nil) (s_cons (s_set (i := 3) sc__law_entry.nd rfl (by first | exact Or.inl rfl | exact Or.inr rfl) (by decide) (d_op op_dAdd (d_b d_int) (d_b (d_op op_dMod (d_b (d_op op_dDiv (b_var 0 (pv 0)) (d_b d_int))) (d_b (d_op op_dPow (d_b d_int) (d_b d_int))))))) (s_cons (s_if (t_cmp (op_dEq (hu200 hr)) (d_b (d_op op_dMod (d_b (d_op op_dDiv (b_var 0 (pv 0)) (d_b d_int))) (d_b d_int))) (d_b d_int) (by rfl)) (s_one (s_set (i := 3) sc__law_entry.nd rfl (by first | exact Or.inl rfl | exact Or.inr rfl) (by decide) (d_neg (b_var 3 (pv 3))))) s_nil) (s_one (s_ret (d_tup (a_cons (d_var 2 (pv 2) (by decide)) (a_cons (d_var 3 (pv 3) (by decide)) a_nil)))))))))⟩)
abbrev s__law_is_mark : Stmt := top 5
abbrev N__law_is_mark : List Str := ["_law_mark", "_law_banks", "_law_books"]
theorem sc__law_is_mark : FnScope N__law_is_mark ["_law_mark", "_law_banks", "_law_books"] (defScope s__law_is_mark) := ⟨rfl, rfl, rfl, by decide +kernel, rfl, by decide +kernel, by decide +kernel⟩
def B__law_is_mark : Bs := (seqS (ifS (orT (notT (asB (f1 (dIsi PyData.isTuple) (vF 0)))) (orT (asB (f2 dNe (fL dLen (consA (vF 0) nilA)) (cF (.int 2)))) (notT (asB (f1 (dIsi PyData.isStr) (f2 dIx (vF 0) (cF (.int 0)))))))) (retS (cF (.bool false))) nopS) (seqS (ifS (orT (notT (asB (f1 (dIsi PyData.isInt) (f2 dIx (vF 0) (cF (.int 1)))))) (asB (f1 (dIsi PyData.isBool) (f2 dIx (vF 0) (cF (.int 1)))))) (retS (cF (.bool false))) nopS) (seqS (ifS (asB (f2 dEq (f2 dIx (vF 0) (cF (.int 0))) (cF (.str "bank")))) (retS (chF dLe dLt (cF (.int 0)) (f2 dIx (vF 0) (cF (.int 1))) (fL dLen (consA (vF 1) nilA)))) nopS) (retS (andF (f2 dEq (f2 dIx (vF 0) (cF (.int 0))) (cF (.str "book"))) (chF dLe dLt (cF (.int 0)) (f2 dIx (vF 0) (cF (.int 1))) (fL dLen (consA (vF 2) nilA))))))))
def S__law_is_mark : List PyData → Option PyData := runF 3 3 B__law_is_mark
theorem kd__law_is_mark {f : Addr} {fd : FuncData} (h : Here K mg "_law_is_mark" s__law_is_mark ["_law_mark", "_law_banks", "_law_books"] f fd) (m_isinstance : mg "isinstance" = none) (m_tuple : mg "tuple" = none) (m_len : mg "len" = none) (m_str : mg "str" = none) (m_int : mg "int" = none) (m_bool : mg "bool" = none)  : Kd P w K mg base "_law_is_mark" 1 ["_law_mark", "_law_banks", "_law_books"] S__law_is_mark :=
  kd_of h (fn_d h.fn sc__law_is_mark rfl rfl (by decide) fun cdv A outer s H E hr => ⟨[], [], (s_cons (s_if (t_w (w_or (t_not (t_val (d_isi isi_tuple (by rfl) m_isinstance (by rfl) m_tuple (by decide +kernel) (b_var 0 (pv 0))))) (w_or (t_cmp (op_dNe (hu200 hr)) (d_b (d_callB c_len (by rfl) m_len (by decide +kernel) (ab_cons (b_var 0 (pv 0)) ab_nil))) (d_b d_int) (by rfl)) (w_or1 (t_not (t_val (d_isi isi_str (by rfl) m_isinstance (by rfl) m_str (by decide +kernel) (d_b (d_ix (b_var 0 (pv 0)) (d_b d_int) (fun _ _ => rfl)))))))))) (s_one (s_ret d_bl)) s_nil) (s_cons (s_if (t_w (w_or (t_not (t_val (d_isi isi_int (by rfl) m_isinstance (by rfl) m_int (by decide +kernel) (d_b (d_ix (b_var 0 (pv 0)) (d_b d_int) (fun _ _ => rfl)))))) (w_or1 (t_val (d_isi isi_bool (by rfl) m_isinstance (by rfl) m_bool (by decide +kernel) (d_b (d_ix (b_var 0 (pv 0)) (d_b d_int) (fun _ _ => rfl)))))))) (s_one (s_ret d_bl)) s_nil) (s_cons (s_if (t_cmp (op_dEq (hu200 hr)) (d_b (d_ix (b_var 0 (pv 0)) (d_b d_int) (fun _ _ => rfl))) (d_b d_str) (by rfl)) (s_one (s_ret (d_chain op_dLe (op_dLt (hu200 hr)) (d_b d_int) (d_b (d_ix (b_var 0 (pv 0)) (d_b d_int) (fun _ _ => rfl))) (d_b (d_callB c_len (by rfl) m_len (by decide +kernel) (ab_cons (b_var 1 (pv 1)) ab_nil)))))) s_nil) (s_one (s_ret (d_and (d_cmp (op_dEq (hu200 hr)) (d_b (d_ix (b_var 0 (pv 0)) (d_b d_int) (fun _ _ => rfl))) (d_b d_str) (by rfl)) (d_one (d_chain op_dLe (op_dLt (hu200 hr)) (d_b d_int) (d_b (d_ix (b_var 0 (pv 0)) (d_b d_int) (fun _ _ => rfl))) (d_b (d_callB c_len (by rfl) m_len (by decide +kernel) (ab_cons (b_var 2 (pv 2)) ab_nil)))))))))))⟩)
abbrev s__law_day : Stmt := top 6
abbrev N__law_day : List Str := ["_law_mark", "_law_banks", "_law_books"]
theorem sc__law_day : FnScope N__law_day ["_law_mark", "_law_banks", "_law_books"] (defScope s__law_day) := ⟨rfl, rfl, rfl, by decide +kernel, rfl, by decide +kernel, by decide +kernel⟩
def B__law_day : Bs := (seqS (ifS (asB (f2 dEq (f2 dIx (vF 0) (cF (.int 0))) (cF (.str "bank")))) (retS (f2 dIx (f2 dIx (vF 1) (f2 dIx (vF 0) (cF (.int 1)))) (cF (.int 0)))) nopS) (retS (f2 dIx (f2 dIx (vF 2) (f2 dIx (vF 0) (cF (.int 1)))) (cF (.int 0)))))
def S__law_day : List PyData → Option PyData := runF 3 3 B__law_day
theorem kd__law_day {f : Addr} {fd : FuncData} (h : Here K mg "_law_day" s__law_day ["_law_mark", "_law_banks", "_law_books"] f fd)   : Kd P w K mg base "_law_day" 1 ["_law_mark", "_law_banks", "_law_books"] S__law_day :=
  kd_of h (fn_d h.fn sc__law_day rfl rfl (by decide) fun cdv A outer s H E hr => ⟨[], [], (s_cons (s_if (t_cmp (op_dEq (hu200 hr)) (d_b (d_ix (b_var 0 (pv 0)) (d_b d_int) (fun _ _ => rfl))) (d_b d_str) (by rfl)) (s_one (s_ret (d_ix (d_b (d_ix (b_var 1 (pv 1)) (d_b (d_ix (b_var 0 (pv 0)) (d_b d_int) (fun _ _ => rfl))) (fun _ _ => rfl))) (d_b d_int) (fun _ _ => rfl)))) s_nil) (s_one (s_ret (d_ix (d_b (d_ix (b_var 2 (pv 2)) (d_b (d_ix (b_var 0 (pv 0)) (d_b d_int) (fun _ _ => rfl))) (fun _ _ => rfl))) (d_b d_int) (fun _ _ => rfl)))))⟩)
abbrev s__law_sizes : Stmt := top 7
abbrev N__law_sizes : List Str := ["_law_script", "_law_sizes_here"]
theorem sc__law_sizes : FnScope N__law_sizes ["_law_script"] (defScope s__law_sizes) := ⟨rfl, rfl, rfl, by decide +kernel, rfl, by decide +kernel, by decide +kernel⟩
def B__law_sizes : Bs := (seqS (setS 1 (tupF (consA (f2 dMod (fL S__law_cell_at (consA (vF 0) (consA (cF (.int 0)) nilA))) (cF (.int 9))) (consA (f2 dMod (f2 dDiv (fL S__law_cell_at (consA (vF 0) (consA (cF (.int 0)) nilA))) (cF (.int 9))) (cF (.int 9))) nilA)))) (seqS (ifS (asB (f2 dEq (f2 dMod (fL S__law_cell_at (consA (vF 0) (consA (cF (.int 1)) nilA))) (cF (.int 8))) (cF (.int 1)))) (setS 1 (tupF (consA (f2 dMod (fL S__law_cell_at (consA (vF 0) (consA (cF (.int 0)) nilA))) (cF (.int 61))) (consA (f2 dMod (f2 dDiv (fL S__law_cell_at (consA (vF 0) (consA (cF (.int 0)) nilA))) (cF (.int 61))) (cF (.int 61))) nilA)))) nopS) (retS (vF 1))))
def S__law_sizes : List PyData → Option PyData := runF 2 1 B__law_sizes
theorem kd__law_sizes {f : Addr} {fd : FuncData} (h : Here K mg "_law_sizes" s__law_sizes ["_law_script"] f fd)  (c__law_cell_at : Kd P w K mg base "_law_cell_at" 1 ["_law_script", "_law_k"] S__law_cell_at) : Kd P w K mg base "_law_sizes" 2 ["_law_script"] S__law_sizes :=
  kd_of h (fn_d h.fn sc__law_sizes rfl rfl (by decide) fun cdv A outer s H E hr => ⟨[], [], (s_cons (s_set (i := 1) sc__law_sizes.nd rfl (by first | exact Or.inl rfl | exact Or.inr rfl) (by decide) (d_tup (a_cons (d_op op_dMod (d_b (d_callK c__law_cell_at hr (by decide) pass0 (by rfl) (a_cons (d_var 0 (pv 0) (by decide)) (a_cons d_int a_nil)))) (d_b d_int)) (a_cons (d_op op_dMod (d_b (d_op op_dDiv (d_b (d_callK c__law_cell_at hr (by decide) pass0 (by rfl) (a_cons (d_var 0 (pv 0) (by decide)) (a_cons d_int a_nil)))) (d_b d_int))) (d_b d_int)) a_nil)))) (s_cons (s_if (t_cmp (op_dEq (hu200 hr)) (d_b (d_op op_dMod (d_b (d_callK c__law_cell_at hr (by decide) pass0 (by rfl) (a_cons (d_var 0 (pv 0) (by decide)) (a_cons d_int a_nil)))) (d_b d_int))) (d_b d_int) (by rfl)) (s_one (s_set (i := 1) sc__law_sizes.nd rfl (by first | exact Or.inl rfl | exact Or.inr rfl) (by decide) (d_tup (a_cons (d_op op_dMod (d_b (d_callK c__law_cell_at hr (by decide) pass0 (by rfl) (a_cons (d_var 0 (pv 0) (by decide)) (a_cons d_int a_nil)))) (d_b d_int)) (a_cons (d_op op_dMod (d_b (d_op op_dDiv (d_b (d_callK c__law_cell_at hr (by decide) pass0 (by rfl) (a_cons (d_var 0 (pv 0) (by decide)) (a_cons d_int a_nil)))) (d_b d_int))) (d_b d_int)) a_nil))))) s_nil) (s_one (s_ret (d_var 1 (pv 1) (by decide))))))⟩)
abbrev s_law : Stmt := top 8
abbrev N_law : List Str := ["_law_script", "_law_sizes_here", "_law_far", "_law_banks", "_law_k", "_law_books", "_law_one", "_law_other", "_law_found", "_law_ahead", "_law_mark", "_law_now"]
theorem sc_law : FnScope N_law ["_law_script"] (defScope s_law) := ⟨rfl, rfl, rfl, by decide +kernel, rfl, by decide +kernel, by decide +kernel⟩
def B_law : Bs := (seqS (setS 1 (fL S__law_sizes (consA (vF 0) nilA))) (seqS (setS 2 (f2 dEq (f2 dMod (f2 dDiv (fL S__law_cell_at (consA (vF 0) (consA (cF (.int 1)) nilA))) (cF (.int 8))) (cF (.int 3))) (cF (.int 1)))) (seqS (setS 3 (lstF (lcF (fL dRange (exN 1 (consA (f2 dIx (vF 1) (cF (.int 0))) nilA))) [4] (tgN 4) yesT (fL S__law_entry (consA (f2 dAdd (f2 dMul (fL S__law_cell_at (consA (vF 0) (consA (f2 dAdd (cF (.int 2)) (f2 dMod (vF 4) (cF (.int 9)))) nilA))) (cF (.int 48271))) (f2 dMul (cF (.int 31)) (vF 4))) (consA (vF 2) nilA)))))) (seqS (setS 5 (lstF (lcF (fL dRange (exN 1 (consA (f2 dIx (vF 1) (cF (.int 1))) nilA))) [4] (tgN 4) yesT (fL S__law_entry (consA (f2 dAdd (f2 dMul (fL S__law_cell_at (consA (vF 0) (consA (f2 dAdd (cF (.int 11)) (f2 dMod (vF 4) (cF (.int 9)))) nilA))) (cF (.int 48271))) (f2 dMul (cF (.int 37)) (vF 4))) (consA (vF 2) nilA)))))) (seqS (setS 6 (lstF (fL dList (consA (vF 3) nilA)))) (seqS (setS 7 (lstF (fL dList (consA (vF 5) nilA)))) (seqS (setS 8 (fL S_in_order (consA (vF 6) (consA (vF 7) nilA)))) (seqS (ifS (orT (notT (asB (f1 (dIsi PyData.isList) (vF 8)))) (orT (asB (f2 dNe (fL dLen (consA (vF 8) nilA)) (f2 dAdd (fL dLen (consA (vF 3) nilA)) (fL dLen (consA (vF 5) nilA))))) (orT (asB (f2 dNe (vF 6) (vF 3))) (asB (f2 dNe (vF 7) (vF 5)))))) (retS (cF (.bool false))) nopS) (seqS (setS 9 (tupF (consA (f1 dNeg (cF (.int 1))) (consA (cF (.str "")) (consA (cF (.int 0)) nilA))))) (seqS (forS (seqA (vF 8)) (tgN 10) (seqS (ifS (notT (asB (fL S__law_is_mark (consA (vF 10) (consA (vF 3) (consA (vF 5) nilA)))))) (retS (cF (.bool false))) nopS) (seqS (setS 11 (tupF (consA (fL S__law_day (consA (vF 10) (consA (vF 3) (consA (vF 5) nilA)))) (consA (f2 dIx (vF 10) (cF (.int 0))) (consA (f2 dIx (vF 10) (cF (.int 1))) nilA))))) (seqS (ifS (notT (asB (f2 dLt (vF 9) (vF 11)))) (retS (cF (.bool false))) nopS) (setS 9 (vF 11)))))) (retS (cF (.bool true)))))))))))))
def S_law : List PyData → Option PyData := runF 12 1 B_law
theorem ok_law {f : Addr} {fd : FuncData} (h : Here K mg "law" s_law ["_law_script"] f fd) (m_range : mg "range" = none) (m_list : mg "list" = none) (m_isinstance : mg "isinstance" = none) (m_len : mg "len" = none) (c__law_sizes : Kd P w K mg base "_law_sizes" 2 ["_law_script"] S__law_sizes) (c__law_cell_at : Kd P w K mg base "_law_cell_at" 1 ["_law_script", "_law_k"] S__law_cell_at) (c__law_entry : Kd P w K mg base "_law_entry" 1 ["_law_cell", "_law_far"] S__law_entry) (c_in_order : Kd P w K mg base "in_order" 1 ["banks", "books"] S_in_order) (c__law_is_mark : Kd P w K mg base "_law_is_mark" 1 ["_law_mark", "_law_banks", "_law_books"] S__law_is_mark) (c__law_day : Kd P w K mg base "_law_day" 1 ["_law_mark", "_law_banks", "_law_books"] S__law_day) : FnOk P w K mg base CX0 3 f fd ["_law_script"] (spD K S_law) :=
  fn_d h.fn sc_law rfl rfl (by decide) fun cdv A outer s H E hr => ⟨[], [], (s_cons (s_set (i := 1) sc_law.nd rfl (by first | exact Or.inl rfl | exact Or.inr rfl) (by decide) (d_callK c__law_sizes hr (by decide) pass0 (by rfl) (a_cons (d_var 0 (pv 0) (by decide)) a_nil))) (s_cons (s_set (i := 2) sc_law.nd rfl (by first | exact Or.inl rfl | exact Or.inr rfl) (by decide) (d_cmp (op_dEq (hu200 hr)) (d_b (d_op op_dMod (d_b (d_op op_dDiv (d_b (d_callK c__law_cell_at hr (by decide) pass0 (by rfl) (a_cons (d_var 0 (pv 0) (by decide)) (a_cons d_int a_nil)))) (d_b d_int))) (d_b d_int))) (d_b d_int) (by rfl))) (s_cons (s_setLc (i := 3) (own := [("_law_k", 4)]) rfl sc_law.nd rfl rfl (by decide) (sw_true rfl rfl rfl (by decide +kernel)) (i_range1 (by rfl) m_range (ab_cons (d_b (d_ix (b_var 1 (pv 1)) (d_b d_int) (fun _ _ => rfl))) ab_nil)) (blkOk_by (own := [("_law_k", 4)]) (N := N_law) (sc := defScope s_law) (by decide +kernel)) (tg_n (by decide)) (by decide) (fun _ _ _ _ _ => (pg_name (i := 4) sc_law.nd rfl (by first | exact Or.inl rfl | exact Or.inr rfl))) (fun _ _ _ _ _ => ts_nil) (fun _ _ _ _ _ => (d_callK c__law_entry hr (by decide) pass0 (by rfl) (a_cons (d_op op_dAdd (d_b (d_op op_dMul (d_b (d_callK c__law_cell_at hr (by decide) pass0 (by rfl) (a_cons (d_var 0 (pv 0) (by decide)) (a_cons (d_op op_dAdd (d_b d_int) (d_b (d_op op_dMod (b_var 4 (pv 4)) (d_b d_int)))) a_nil)))) (d_b d_int))) (d_b (d_op op_dMul (d_b d_int) (b_var 4 (pv 4))))) (a_cons (d_var 2 (pv 2) (by decide)) a_nil))))) (s_cons (s_setLc (i := 5) (own := [("_law_k", 4)]) rfl sc_law.nd rfl rfl (by decide) (sw_true rfl rfl rfl (by decide +kernel)) (i_range1 (by rfl) m_range (ab_cons (d_b (d_ix (b_var 1 (pv 1)) (d_b d_int) (fun _ _ => rfl))) ab_nil)) (blkOk_by (own := [("_law_k", 4)]) (N := N_law) (sc := defScope s_law) (by decide +kernel)) (tg_n (by decide)) (by decide) (fun _ _ _ _ _ => (pg_name (i := 4) sc_law.nd rfl (by first | exact Or.inl rfl | exact Or.inr rfl))) (fun _ _ _ _ _ => ts_nil) (fun _ _ _ _ _ => (d_callK c__law_entry hr (by decide) pass0 (by rfl) (a_cons (d_op op_dAdd (d_b (d_op op_dMul (d_b (d_callK c__law_cell_at hr (by decide) pass0 (by rfl) (a_cons (d_var 0 (pv 0) (by decide)) (a_cons (d_op op_dAdd (d_b d_int) (d_b (d_op op_dMod (b_var 4 (pv 4)) (d_b d_int)))) a_nil)))) (d_b d_int))) (d_b (d_op op_dMul (d_b d_int) (b_var 4 (pv 4))))) (a_cons (d_var 2 (pv 2) (by decide)) a_nil))))) (s_cons (s_set (i := 6) sc_law.nd rfl (by first | exact Or.inl rfl | exact Or.inr rfl) (by decide) (o_d (o_callT c_list (by rfl) m_list (by decide +kernel) (ab_cons (b_var 3 (pv 3)) ab_nil)))) (s_cons (s_set (i := 7) sc_law.nd rfl (by first | exact Or.inl rfl | exact Or.inr rfl) (by decide) (o_d (o_callT c_list (by rfl) m_list (by decide +kernel) (ab_cons (b_var 5 (pv 5)) ab_nil)))) (s_cons (s_set (i := 8) sc_law.nd rfl (by first | exact Or.inl rfl | exact Or.inr rfl) (by decide) (d_callK c_in_order hr (by decide) pass0 (by rfl) (a_cons (d_var 6 (pv 6) (by decide)) (a_cons (d_var 7 (pv 7) (by decide)) a_nil)))) (s_cons (s_if (t_w (w_or (t_not (t_val (d_isi isi_list (by rfl) m_isinstance (by rfl) m_list (by decide +kernel) (b_var 8 (pv 8))))) (w_or (t_cmp (op_dNe (hu200 hr)) (d_b (d_callB c_len (by rfl) m_len (by decide +kernel) (ab_cons (b_var 8 (pv 8)) ab_nil))) (d_b (d_op op_dAdd (d_b (d_callB c_len (by rfl) m_len (by decide +kernel) (ab_cons (b_var 3 (pv 3)) ab_nil))) (d_b (d_callB c_len (by rfl) m_len (by decide +kernel) (ab_cons (b_var 5 (pv 5)) ab_nil))))) (by rfl)) (w_or (t_cmp (op_dNe (hu200 hr)) (b_var 6 (pv 6)) (b_var 3 (pv 3)) (by rfl)) (w_or1 (t_cmp (op_dNe (hu200 hr)) (b_var 7 (pv 7)) (b_var 5 (pv 5)) (by rfl))))))) (s_one (s_ret d_bl)) s_nil) (s_cons (s_set (i := 9) sc_law.nd rfl (by first | exact Or.inl rfl | exact Or.inr rfl) (by decide) (d_tup (a_cons (d_neg (d_b d_int)) (a_cons d_str (a_cons d_int a_nil))))) (s_cons (s_for PassesOwn.never rfl (i_seq (d_var 8 (pv 8) (by decide))) (tg_n (by decide)) (pg_name (i := 10) sc_law.nd rfl (by first | exact Or.inl rfl | exact Or.inr rfl)) (s_cons (s_if (t_not (t_val (d_callK c__law_is_mark hr (by decide) pass0 (by rfl) (a_cons (d_var 10 (pv 10) (by decide)) (a_cons (d_var 3 (pv 3) (by decide)) (a_cons (d_var 5 (pv 5) (by decide)) a_nil)))))) (s_one (s_ret d_bl)) s_nil) (s_cons (s_set (i := 11) sc_law.nd rfl (by first | exact Or.inl rfl | exact Or.inr rfl) (by decide) (d_tup (a_cons (d_callK c__law_day hr (by decide) pass0 (by rfl) (a_cons (d_var 10 (pv 10) (by decide)) (a_cons (d_var 3 (pv 3) (by decide)) (a_cons (d_var 5 (pv 5) (by decide)) a_nil)))) (a_cons (d_ix (b_var 10 (pv 10)) (d_b d_int) (fun _ _ => rfl)) (a_cons (d_ix (b_var 10 (pv 10)) (d_b d_int) (fun _ _ => rfl)) a_nil))))) (s_cons (s_if (t_not (t_cmp (op_dLt (hu200 hr)) (b_var 9 (pv 9)) (b_var 11 (pv 11)) (by rfl))) (s_one (s_ret d_bl)) s_nil) (s_one (s_set (i := 9) sc_law.nd rfl (by first | exact Or.inl rfl | exact Or.inr rfl) (by decide) (d_var 11 (pv 11) (by decide)))))))) (s_one (s_ret d_bl))))))))))))⟩
end
end Dat
open PySem PySem.Spec PyProof.Rows L2
namespace Dat
/-! ### the parts -/
def cellI (ns : List Int) (i : Int) : Int := ns.getD i.toNat 0
theorem cell_at (ns : List Int) (i : Int) (hi : 0 ≤ i) : S__law_cell_at [.list (ns.map .int), .int i] = some (.int (cellI ns i)) := by
  unfold S__law_cell_at B__law_cell_at cellI
  obtain ⟨k, rfl⟩ : ∃ k : Nat, i = k := ⟨i.toNat, by omega⟩
  by_cases h : k < ns.length
  · have h' : (k : Int) < ns.length := by omega
    have h2 : atI (ns.map PyData.int) (k : Int) = some (.int (ns.getD k 0)) := atI_nat (by simp [List.getElem?_eq_getElem h, List.getD_eq_getElem?_getD])
    simp [h', h2]
  · have h' : ¬ (k : Int) < ns.length := by omega
    simp [h', List.getElem?_eq_none (Nat.le_of_not_lt h)]
def entM (c : Int) (far : Bool) : Entry :=
  (if far then c % 10000 else c % 8, if c / 3 % 2 = 1 then -(1 + c / 7 % 1000000000) else 1 + c / 7 % 1000000000)
theorem law_entry (c : Int) (far : Bool) : S__law_entry [.int c, .bool far] = some (eEntry (entM c far)) := by
  unfold S__law_entry B__law_entry eEntry entM
  cases far <;> by_cases h : c / 3 % 2 = 1 <;> simp [h]
theorem entM_day (c : Int) (far : Bool) : 0 ≤ (entM c far).1 := by
  unfold entM
  cases far <;> simp <;> omega
theorem row_comp (s : Bool) (t : Str) (ht : t = sideS s) (es : List Entry) {ρ : Dv} (h : ρ.length = 6) :
    lcGo (tgP 3 4) yesT (tupF (consA (f2 dIx (vF 4) (cF (.int 0))) (consA (cF (.str t)) (consA (vF 3) nilA)))) ρ (numbered (es.map eEntry)) = some ((rowsOf s es).map eRow) := by
  subst ht
  match ρ, h with
  | [a, b, c, d, e, f], _ =>
    rw [num_map, lc_map (fun p : Nat × Entry => PyData.tuple [.int p.1, eEntry p.2]) (fun p => .tuple [.int p.2.1, .str (sideS s), .int p.1])]
    · congr 1
      apply List.ext_getElem?
      intro i
      simp only [rowsOf, List.getElem?_map, List.getElem?_mapIdx]
      cases es[i]? <;> rfl
    · rintro ⟨i, e⟩ _
      simp [eEntry]
theorem in_order (banks books : List Entry) (h1 : banks.length ≤ 1000) (h2 : books.length ≤ 1000) : S_in_order [.list (banks.map eEntry), .list (books.map eEntry)] = some (.list ((sortedRows banks books).map fun r => eMark r.2)) := by
  unfold S_in_order B_in_order
  have e1 : (rowsOf false banks).length = banks.length := by simp [rowsOf]
  have e2 : (rowsOf true books).length = books.length := by simp [rowsOf]
  have hl : (rowsOf false banks).length + (rowsOf true books).length ≤ 16777216 := by omega
  simp [row_comp false "bank" rfl banks, row_comp true "book" rfl books, hl]
  rw [← List.map_append]
  have hs : dSorted [.list ((rowsOf false banks ++ rowsOf true books).map eRow)] = some ((sortedRows banks books).map eRow) := sort_rows _
  simp only [hs, Option.bind_some, Option.map_some, Function.comp_apply]
  rw [lc_map eRow (fun r => eMark r.2)]
  · rfl
  · rintro ⟨d, s, i⟩ _
    simp [eRow, eMark]

theorem day_of (banks books : List Entry) (m : Mark) (d : Int) (h : (if m.1 = true then books else banks)[m.2]?.map (·.1) = some d) :
    S__law_day [eMark m, .list (banks.map eEntry), .list (books.map eEntry)] = some (.int d) := by
  unfold S__law_day B__law_day
  obtain ⟨s, i⟩ := m
  cases s with
  | false =>
    simp only [Bool.false_eq_true, if_false] at h
    obtain ⟨e, he, rfl⟩ := Option.map_eq_some_iff.mp h
    have h2 : atI (banks.map eEntry) (i : Int) = some (eEntry e) := atI_nat (by simp [he])
    simp [eMark, side_bank, h2, eEntry]
  | true =>
    simp only [if_true] at h
    obtain ⟨e, he, rfl⟩ := Option.map_eq_some_iff.mp h
    have h2 : atI (books.map eEntry) (i : Int) = some (eEntry e) := atI_nat (by simp [he])
    simp [eMark, side_bank, h2, eEntry]
theorem is_mark (banks books : List Entry) (m : Mark) (h : m.2 < (if m.1 = true then books else banks).length) :
    S__law_is_mark [eMark m, .list (banks.map eEntry), .list (books.map eEntry)] = some (.bool true) := by
  unfold S__law_is_mark B__law_is_mark
  obtain ⟨s, i⟩ := m
  cases s with
  | false =>
    simp only [Bool.false_eq_true, if_false] at h
    simp [eMark, side_bank, side_book, h]
  | true =>
    simp only [if_true] at h
    simp [eMark, side_bank, side_book, h]
def sizesM (ns : List Int) : Int × Int := if cellI ns 1 % 8 = 1 then (cellI ns 0 % 61, cellI ns 0 / 61 % 61) else (cellI ns 0 % 9, cellI ns 0 / 9 % 9)
theorem law_sizes (ns : List Int) : S__law_sizes [.list (ns.map .int)] = some (.tuple [.int (sizesM ns).1, .int (sizesM ns).2]) := by
  unfold S__law_sizes B__law_sizes sizesM
  by_cases h : cellI ns 1 % 8 = 1 <;> simp [cell_at, h]
theorem sizes_bound (ns : List Int) : 0 ≤ (sizesM ns).1 ∧ (sizesM ns).1 ≤ 60 ∧ 0 ≤ (sizesM ns).2 ∧ (sizesM ns).2 ≤ 60 := by
  unfold sizesM
  split <;> simp <;> omega
end Dat
open PySem PySem.Spec PyProof.Rows L2
namespace Dat
theorem row_mem {banks books : List Entry} {r : Row} (h : r ∈ rows banks books) : (if r.2.1 = true then books else banks)[r.2.2]?.map (·.1) = some r.1 := by
  unfold rows at h
  rcases List.mem_append.mp h with h | h
  · obtain ⟨i, hi, e⟩ := List.mem_mapIdx.mp h
    subst e
    simp [hi]
  · obtain ⟨i, hi, e⟩ := List.mem_mapIdx.mp h
    subst e
    simp [hi]
theorem law_holds : ∀ ns : List Int, ns.length ≤ 63 → S_law [.list (ns.map .int)] = some (.bool true) := by
  intro ns hns
  obtain ⟨b1, b2, b3, b4⟩ := sizes_bound ns
  unfold S_law B_law
  generalize hfar : decide (cellI ns 1 / 8 % 3 = 1) = far
  have c1 : ∀ (n : Nat) (g : Nat → Int), True := fun _ _ => trivial
  have r1 : (sizesM ns).1 ≤ 16777216 := by omega
  have r2 : -16777216 ≤ (sizesM ns).1 := by omega
  have r3 : (sizesM ns).2 ≤ 16777216 := by omega
  have r4 : -16777216 ≤ (sizesM ns).2 := by omega
  simp [cell_at, law_sizes, hfar, r1, r2, r3, r4]
  generalize hb : (List.range (sizesM ns).1.toNat).map (fun k : Nat => entM (cellI ns (2 + (k : Int) % 9) * 48271 + 31 * (k : Int)) far) = banks
  generalize hk : (List.range (sizesM ns).2.toNat).map (fun k : Nat => entM (cellI ns (11 + (k : Int) % 9) * 48271 + 37 * (k : Int)) far) = books
  rw [lc_range 0 _ (fun k : Nat => eEntry (entM (cellI ns (2 + (k : Int) % 9) * 48271 + 31 * (k : Int)) far)) fun k hk => by
    have h0 : 0 ≤ 2 + (k : Int) % 9 := by omega
    simp [cell_at ns _ h0, law_entry]]
  rw [show (List.range (sizesM ns).1.toNat).map (fun k : Nat => eEntry (entM (cellI ns (2 + (k : Int) % 9) * 48271 + 31 * (k : Int)) far)) = banks.map eEntry by rw [← hb, List.map_map]; rfl]
  simp [r1, r2, r3, r4]
  rw [lc_range 0 _ (fun k : Nat => eEntry (entM (cellI ns (11 + (k : Int) % 9) * 48271 + 37 * (k : Int)) far)) fun k hk => by
    have h0 : 0 ≤ 11 + (k : Int) % 9 := by omega
    simp [cell_at ns _ h0, law_entry]]
  rw [show (List.range (sizesM ns).2.toNat).map (fun k : Nat => eEntry (entM (cellI ns (11 + (k : Int) % 9) * 48271 + 37 * (k : Int)) far)) = books.map eEntry by rw [← hk, List.map_map]; rfl]
  have l1 : banks.length ≤ 1000 := by rw [← hb, List.length_map, List.length_range]; omega
  have l2 : books.length ≤ 1000 := by rw [← hk, List.length_map, List.length_range]; omega
  have l3 : (sortedRows banks books).length = banks.length + books.length := by
    unfold sortedRows rows
    rw [(List.mergeSort_perm _ _).length_eq, List.length_append]
    simp [rowsOf]
  have hd : ∀ r : Row, r ∈ sortedRows banks books → 0 ≤ r.1 := fun r hr => by
    have h1 := row_mem ((List.mergeSort_perm _ _).mem_iff.mp hr)
    obtain ⟨e, he, h2⟩ := Option.map_eq_some_iff.mp h1
    have hm : e ∈ banks ∨ e ∈ books := by
      split at he
      · exact .inr (List.mem_of_getElem? he)
      · exact .inl (List.mem_of_getElem? he)
    rw [← h2]
    rcases hm with hm | hm
    · rw [← hb] at hm
      obtain ⟨k, _, rfl⟩ := List.mem_map.mp hm
      exact entM_day _ _
    · rw [← hk] at hm
      obtain ⟨k, _, rfl⟩ := List.mem_map.mp hm
      exact entM_day _ _
  simp [in_order banks books l1 l2, l3, ne_lists eqv_entry depth_entry]
  have go := for_go (tgt := tgN 10) (B := seqS (ifS (notT (asB (fL S__law_is_mark (consA (vF 10) (consA (vF 3) (consA (vF 5) nilA)))))) (retS (cF (PyData.bool false))) nopS)
      (seqS (setS 11 (tupF (consA (fL S__law_day (consA (vF 10) (consA (vF 3) (consA (vF 5) nilA)))) (consA (f2 dIx (vF 10) (cF (PyData.int 0))) (consA (f2 dIx (vF 10) (cF (PyData.int 1))) nilA)))))
        (seqS (ifS (notT (asB (f2 dLt (vF 9) (vF 11)))) (retS (cF (PyData.bool false))) nopS) (setS 9 (vF 11)))))
    (fun r : Row => eMark r.2)
    (fun s : PyData × Option PyData × Option PyData => [some (PyData.list (List.map PyData.int ns)), some (PyData.tuple [PyData.int (sizesM ns).fst, PyData.int (sizesM ns).snd]), some (PyData.bool far), some (PyData.list (List.map eEntry banks)), none, some (PyData.list (List.map eEntry books)),
      some (PyData.list (List.map eEntry banks)), some (PyData.list (List.map eEntry books)), some (PyData.list (List.map (fun r => eMark r.snd) (sortedRows banks books))), some s.1, s.2.1, s.2.2])
    (fun s r => (eRow r, some (eMark r.2), some (eRow r)))
    (fun pre s => (pre = [] ∧ s.1 = PyData.tuple [PyData.int (-1), PyData.str (Str.ofString ""), PyData.int 0]) ∨ ∃ pre' r, pre = pre' ++ [r] ∧ s.1 = eRow r)
    (sortedRows banks books) (fun pre x post s hall hinv => ?_) [] (sortedRows banks books) (PyData.tuple [PyData.int (-1), PyData.str (Str.ofString ""), PyData.int 0], none, none) rfl (.inl ⟨rfl, rfl⟩)
  · simp [go.1]
  · refine ⟨.inr ⟨pre, x, rfl, rfl⟩, .inl ?_⟩
    have hx : x ∈ sortedRows banks books := by rw [hall]; simp
    have hm := row_mem ((List.mergeSort_perm _ _).mem_iff.mp hx)
    have hl : x.2.2 < (if x.2.1 = true then books else banks).length := by
      obtain ⟨e, he, _⟩ := Option.map_eq_some_iff.mp hm
      exact (List.getElem?_eq_some_iff.mp he).1
    have hlt : dLt s.1 (eRow x) = some (.bool true) := by
      rcases hinv with ⟨_, e⟩ | ⟨pre', r, e1, e⟩
      · rw [e]
        have h0 := hd x hx
        obtain ⟨d, sd, i⟩ := x
        have hne : ¬ ((-1 : Int) = d) := fun z => by simp only at h0; omega
        have hlt : (-1 : Int) < d := by simp only at h0; omega
        have ha : PySem.W.alike (PyData.tuple [PyData.int (-1), PyData.str (Str.ofString ""), PyData.int 0]) (eRow (d, sd, i)) = true := by simp [eRow, PySem.W.alike, PySem.W.alikeAll]
        have hs : shal (eRow (d, sd, i)) = true := shal_of (depth_row _)
        unfold eRow at *
        simp only [dLt]
        rw [if_pos ⟨ha, .inr hs⟩, lt_tuple, ltAll_cons rfl]
        simp [PyData.eqv, hne, PySem.W.dataLt_int, hlt]
      · rw [e]
        have hp := sorted_strict banks books
        rw [hall, e1] at hp
        have hrx : rowLt r x = true := by
          have := (List.pairwise_append.mp hp).2.2 r (by simp) x (by simp)
          exact this
        have ha := alike_row r x
        have hs : shal (eRow r) = true := shal_of (depth_row _)
        have hl := lt_row r x
        unfold eRow at *
        simp only [dLt]
        rw [if_pos ⟨ha, .inl hs⟩, hl, hrx]
    have e1 := is_mark banks books x.2 hl
    have e2 := day_of banks books x.2 x.1 hm
    obtain ⟨d, sd, i⟩ := x
    simp only [eMark, eRow] at hlt e1 e2 ⊢
    simp [e1, e2, hlt]
end Dat
open PySem PySem.Spec PyProof.Rows L2
namespace Dat
theorem all_mk {l : PySem.W.OpenLaw} {w : World} {K : PySem.W.Frag} {h : Heap} {mg : Str → Option Value} {fa : Addr} (X : K.In h) (G : h.Ns mainGlobals mg) (hfa : mg "law" = some (.ref fa))
    {f_in_order : Addr} {oc_in_order kV_in_order dc_in_order pm_in_order cd_in_order ct_in_order : Value} {od_in_order an_in_order : Option Addr} {sl_in_order : Array (Option Value)}
    {f__law_cell_at : Addr} {oc__law_cell_at kV__law_cell_at dc__law_cell_at pm__law_cell_at cd__law_cell_at ct__law_cell_at : Value} {od__law_cell_at an__law_cell_at : Option Addr} {sl__law_cell_at : Array (Option Value)}
    {f__law_entry : Addr} {oc__law_entry kV__law_entry dc__law_entry pm__law_entry cd__law_entry ct__law_entry : Value} {od__law_entry an__law_entry : Option Addr} {sl__law_entry : Array (Option Value)}
    {f__law_is_mark : Addr} {oc__law_is_mark kV__law_is_mark dc__law_is_mark pm__law_is_mark cd__law_is_mark ct__law_is_mark : Value} {od__law_is_mark an__law_is_mark : Option Addr} {sl__law_is_mark : Array (Option Value)}
    {f__law_day : Addr} {oc__law_day kV__law_day dc__law_day pm__law_day cd__law_day ct__law_day : Value} {od__law_day an__law_day : Option Addr} {sl__law_day : Array (Option Value)}
    {f__law_sizes : Addr} {oc__law_sizes kV__law_sizes dc__law_sizes pm__law_sizes cd__law_sizes ct__law_sizes : Value} {od__law_sizes an__law_sizes : Option Addr} {sl__law_sizes : Array (Option Value)}
    {f_law : Addr} {oc_law kV_law dc_law pm_law cd_law ct_law : Value} {od_law an_law : Option Addr} {sl_law : Array (Option Value)}
    (a_in_order : PySem.W.nsIn K mainGlobals "in_order" = some (some (.ref f_in_order))) (l_in_order : K.lookup f_in_order = some ⟨oc_in_order, od_in_order, .func (PySem.W.fnOf "in_order" "in_order" (defArgs s_in_order) (defBody s_in_order) (defScope s_in_order) .none kV_in_order dc_in_order pm_in_order an_in_order cd_in_order ct_in_order), sl_in_order⟩) (c_in_order : PySem.W.codeIn K cd_in_order "in_order" = true) (k_in_order : PySem.W.keepIn K (.ref f_in_order) = true)
    (a__law_cell_at : PySem.W.nsIn K mainGlobals "_law_cell_at" = some (some (.ref f__law_cell_at))) (l__law_cell_at : K.lookup f__law_cell_at = some ⟨oc__law_cell_at, od__law_cell_at, .func (PySem.W.fnOf "_law_cell_at" "_law_cell_at" (defArgs s__law_cell_at) (defBody s__law_cell_at) (defScope s__law_cell_at) .none kV__law_cell_at dc__law_cell_at pm__law_cell_at an__law_cell_at cd__law_cell_at ct__law_cell_at), sl__law_cell_at⟩) (c__law_cell_at : PySem.W.codeIn K cd__law_cell_at "_law_cell_at" = true) (k__law_cell_at : PySem.W.keepIn K (.ref f__law_cell_at) = true)
    (a__law_entry : PySem.W.nsIn K mainGlobals "_law_entry" = some (some (.ref f__law_entry))) (l__law_entry : K.lookup f__law_entry = some ⟨oc__law_entry, od__law_entry, .func (PySem.W.fnOf "_law_entry" "_law_entry" (defArgs s__law_entry) (defBody s__law_entry) (defScope s__law_entry) .none kV__law_entry dc__law_entry pm__law_entry an__law_entry cd__law_entry ct__law_entry), sl__law_entry⟩) (c__law_entry : PySem.W.codeIn K cd__law_entry "_law_entry" = true) (k__law_entry : PySem.W.keepIn K (.ref f__law_entry) = true)
    (a__law_is_mark : PySem.W.nsIn K mainGlobals "_law_is_mark" = some (some (.ref f__law_is_mark))) (l__law_is_mark : K.lookup f__law_is_mark = some ⟨oc__law_is_mark, od__law_is_mark, .func (PySem.W.fnOf "_law_is_mark" "_law_is_mark" (defArgs s__law_is_mark) (defBody s__law_is_mark) (defScope s__law_is_mark) .none kV__law_is_mark dc__law_is_mark pm__law_is_mark an__law_is_mark cd__law_is_mark ct__law_is_mark), sl__law_is_mark⟩) (c__law_is_mark : PySem.W.codeIn K cd__law_is_mark "_law_is_mark" = true) (k__law_is_mark : PySem.W.keepIn K (.ref f__law_is_mark) = true)
    (a__law_day : PySem.W.nsIn K mainGlobals "_law_day" = some (some (.ref f__law_day))) (l__law_day : K.lookup f__law_day = some ⟨oc__law_day, od__law_day, .func (PySem.W.fnOf "_law_day" "_law_day" (defArgs s__law_day) (defBody s__law_day) (defScope s__law_day) .none kV__law_day dc__law_day pm__law_day an__law_day cd__law_day ct__law_day), sl__law_day⟩) (c__law_day : PySem.W.codeIn K cd__law_day "_law_day" = true) (k__law_day : PySem.W.keepIn K (.ref f__law_day) = true)
    (a__law_sizes : PySem.W.nsIn K mainGlobals "_law_sizes" = some (some (.ref f__law_sizes))) (l__law_sizes : K.lookup f__law_sizes = some ⟨oc__law_sizes, od__law_sizes, .func (PySem.W.fnOf "_law_sizes" "_law_sizes" (defArgs s__law_sizes) (defBody s__law_sizes) (defScope s__law_sizes) .none kV__law_sizes dc__law_sizes pm__law_sizes an__law_sizes cd__law_sizes ct__law_sizes), sl__law_sizes⟩) (c__law_sizes : PySem.W.codeIn K cd__law_sizes "_law_sizes" = true) (k__law_sizes : PySem.W.keepIn K (.ref f__law_sizes) = true)
    (a_law : PySem.W.nsIn K mainGlobals "law" = some (some (.ref f_law))) (l_law : K.lookup f_law = some ⟨oc_law, od_law, .func (PySem.W.fnOf "law" "law" (defArgs s_law) (defBody s_law) (defScope s_law) .none kV_law dc_law pm_law an_law cd_law ct_law), sl_law⟩) (c_law : PySem.W.codeIn K cd_law "law" = true) (k_law : PySem.W.keepIn K (.ref f_law) = true)
    (z_enumerate : PySem.W.nsIn K mainGlobals "enumerate" = some none)
    (z_sorted : PySem.W.nsIn K mainGlobals "sorted" = some none)
    (z_len : PySem.W.nsIn K mainGlobals "len" = some none)
    (z_isinstance : PySem.W.nsIn K mainGlobals "isinstance" = some none)
    (z_tuple : PySem.W.nsIn K mainGlobals "tuple" = some none)
    (z_str : PySem.W.nsIn K mainGlobals "str" = some none)
    (z_int : PySem.W.nsIn K mainGlobals "int" = some none)
    (z_bool : PySem.W.nsIn K mainGlobals "bool" = some none)
    (z_range : PySem.W.nsIn K mainGlobals "range" = some none)
    (z_list : PySem.W.nsIn K mainGlobals "list" = some none) :
    ∃ fd : FuncData, (∀ (s : Shared) (v : Value), BindsTo s fd ⟨[v], []⟩ [("_law_script", v)]) ∧ ∀ base : Heap, K.In base → base.Ns mainGlobals mg → FnOk l.prog w K mg base CX0 3 fa fd ["_law_script"] (spD K S_law) := by
  have e := hfa.symm.trans (PySem.W.mg_of X G a_law)
  cases e
  have h_in_order := here_mk (x := "in_order") (st := s_in_order) (ps := ["banks", "books"]) X G a_in_order l_in_order c_in_order k_in_order (fun _ _ _ _ _ _ us hl => match us, hl with | [_, _], _ => rfl)
  have h__law_cell_at := here_mk (x := "_law_cell_at") (st := s__law_cell_at) (ps := ["_law_script", "_law_k"]) X G a__law_cell_at l__law_cell_at c__law_cell_at k__law_cell_at (fun _ _ _ _ _ _ us hl => match us, hl with | [_, _], _ => rfl)
  have h__law_entry := here_mk (x := "_law_entry") (st := s__law_entry) (ps := ["_law_cell", "_law_far"]) X G a__law_entry l__law_entry c__law_entry k__law_entry (fun _ _ _ _ _ _ us hl => match us, hl with | [_, _], _ => rfl)
  have h__law_is_mark := here_mk (x := "_law_is_mark") (st := s__law_is_mark) (ps := ["_law_mark", "_law_banks", "_law_books"]) X G a__law_is_mark l__law_is_mark c__law_is_mark k__law_is_mark (fun _ _ _ _ _ _ us hl => match us, hl with | [_, _, _], _ => rfl)
  have h__law_day := here_mk (x := "_law_day") (st := s__law_day) (ps := ["_law_mark", "_law_banks", "_law_books"]) X G a__law_day l__law_day c__law_day k__law_day (fun _ _ _ _ _ _ us hl => match us, hl with | [_, _, _], _ => rfl)
  have h__law_sizes := here_mk (x := "_law_sizes") (st := s__law_sizes) (ps := ["_law_script"]) X G a__law_sizes l__law_sizes c__law_sizes k__law_sizes (fun _ _ _ _ _ _ us hl => match us, hl with | [_], _ => rfl)
  have h_law := here_mk (x := "law") (st := s_law) (ps := ["_law_script"]) X G a_law l_law c_law k_law (fun _ _ _ _ _ _ us hl => match us, hl with | [_], _ => rfl)
  have m_enumerate := PySem.W.mg_none_of X G z_enumerate
  have m_sorted := PySem.W.mg_none_of X G z_sorted
  have m_len := PySem.W.mg_none_of X G z_len
  have m_isinstance := PySem.W.mg_none_of X G z_isinstance
  have m_tuple := PySem.W.mg_none_of X G z_tuple
  have m_str := PySem.W.mg_none_of X G z_str
  have m_int := PySem.W.mg_none_of X G z_int
  have m_bool := PySem.W.mg_none_of X G z_bool
  have m_range := PySem.W.mg_none_of X G z_range
  have m_list := PySem.W.mg_none_of X G z_list
  refine ⟨PySem.W.fnOf "law" "law" (defArgs s_law) (defBody s_law) (defScope s_law) .none kV_law dc_law pm_law an_law cd_law ct_law, fun s v => .of_eq rfl, fun base _ _ => ?_⟩
  have c_in_order := kd_in_order (P := l.prog) (w := w) (base := base) h_in_order m_enumerate m_sorted 
  have c__law_cell_at := kd__law_cell_at (P := l.prog) (w := w) (base := base) h__law_cell_at m_len 
  have c__law_entry := kd__law_entry (P := l.prog) (w := w) (base := base) h__law_entry  
  have c__law_is_mark := kd__law_is_mark (P := l.prog) (w := w) (base := base) h__law_is_mark m_isinstance m_tuple m_len m_str m_int m_bool 
  have c__law_day := kd__law_day (P := l.prog) (w := w) (base := base) h__law_day  
  have c__law_sizes := kd__law_sizes (P := l.prog) (w := w) (base := base) h__law_sizes  c__law_cell_at
  exact ok_law h_law m_range m_list m_isinstance m_len c__law_sizes c__law_cell_at c__law_entry c_in_order c__law_is_mark c__law_day
end Dat
open PySem PySem.W PyProof.Rows
set_option maxRecDepth 100000 in
set_option maxHeartbeats 0 in
theorem PySem.Challenge.cw_tickoff_k01_in_order_holds : PySem.Challenge.rw_tickoff_k01_in_order.Holds := by
  w_on; o_law; k_head; (case hw => w_witness2)
  k_fill
  refine L2.walk_of (l := PySem.Challenge.rw_tickoff_k01_in_order) (n := 63) (k := 3) (x := "_law_script") (CX := fun _ => L2.CX0) (sp := fun w => Dat.spD _ Dat.S_law) rfl (by decide) rfl ⟨rfl, by decide, by decide⟩ (fun w h Y => PySem.W.kIn_of Y) ?F (fun _ _ a ns hl _ hS => Dat.law_sp Dat.law_holds hl hS _ _ fun _ => rfl) fun _ _ _ _ _ z => z
  case F =>
    intro w mg fa h KX G hmg
    refine' Dat.all_mk KX G hmg ?a_in_order ?l_in_order ?c_in_order ?k_in_order ?a__law_cell_at ?l__law_cell_at ?c__law_cell_at ?k__law_cell_at ?a__law_entry ?l__law_entry ?c__law_entry ?k__law_entry ?a__law_is_mark ?l__law_is_mark ?c__law_is_mark ?k__law_is_mark ?a__law_day ?l__law_day ?c__law_day ?k__law_day ?a__law_sizes ?l__law_sizes ?c__law_sizes ?k__law_sizes ?a_law ?l_law ?c_law ?k_law ?z_enumerate ?z_sorted ?z_len ?z_isinstance ?z_tuple ?z_str ?z_int ?z_bool ?z_range ?z_list
    (case a_in_order => k_is)
    (case l_in_order => k_is)
    (case c_in_order => k_is)
    (case k_in_order => k_is)
    (case a__law_cell_at => k_is)
    (case l__law_cell_at => k_is)
    (case c__law_cell_at => k_is)
    (case k__law_cell_at => k_is)
    (case a__law_entry => k_is)
    (case l__law_entry => k_is)
    (case c__law_entry => k_is)
    (case k__law_entry => k_is)
    (case a__law_is_mark => k_is)
    (case l__law_is_mark => k_is)
    (case c__law_is_mark => k_is)
    (case k__law_is_mark => k_is)
    (case a__law_day => k_is)
    (case l__law_day => k_is)
    (case c__law_day => k_is)
    (case k__law_day => k_is)
    (case a__law_sizes => k_is)
    (case l__law_sizes => k_is)
    (case c__law_sizes => k_is)
    (case k__law_sizes => k_is)
    (case a_law => k_is)
    (case l_law => k_is)
    (case c_law => k_is)
    (case k_law => k_is)
    (case z_enumerate => k_is)
    (case z_sorted => k_is)
    (case z_len => k_is)
    (case z_isinstance => k_is)
    (case z_tuple => k_is)
    (case z_str => k_is)
    (case z_int => k_is)
    (case z_bool => k_is)
    (case z_range => k_is)
    (case z_list => k_is)
