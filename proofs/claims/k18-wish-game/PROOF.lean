import PyProof.Rows.All
import Wide.All
import OpenK.AllK
import Wide.FinOn
import HandS.ForMost
import HandS.Walk
import HandS.SetFor
import HandS.Strs
import HandS.IsInst
import HandS.Conv
import HandS.More
import HandS.DictComp
import HandS.TupAny
import HandS.Rev
import KE.KDictKeyed
import HandS.DeepEq
import HandS.ForExc
import HandS.ExcIs
import HandS.Text
import PySem.Challenge.RW_crownwalk_k18_wish_game
set_option Elab.async false
set_option linter.all false
set_option maxRecDepth 100000
set_option maxHeartbeats 4000000
/- CwBase: a typed layer over HandS. F: the part of the heap that is never changed again; data by codecs; an environment of slots; judgements with mirrors in Option. -/
namespace Cw
open PySem PySem.Spec L2
open PyProof.Rows hiding St

/- ## heaps -/
def isD : HO -> Prop
  | .dK _ => True
  | _ => False
/- what F says can be read in H (a dict may be locked there) -/
def FEx (F H : Hp) : Prop := ∀ a u, F a = some u → H a = some u ∨ (isD u ∧ ∃ o, H a = some (.frz o u))
/- no dict is locked -/
def NoLk (H : Hp) : Prop := ∀ a o u, isD u → H a ≠ some (.frz o u)
structure Grow (F H F' H' : Hp) : Prop where
  fs : Same F F'
  fx : FEx F' H'
  hs : Same H H'
  nw : ∀ a, F' a ≠ none → F a ≠ none ∨ H a = none
  nf : ∀ a o u, isD u → H' a = some (.frz o u) → H a = some (.frz o u)
theorem FEx.ne {F H : Hp} (x : FEx F H) {a : Addr} {u : HO} (h : F a = some u) (d : ¬ isD u) : H a = some u := (x a u h).resolve_right fun z => d z.1
theorem FEx.rd {F H : Hp} (x : FEx F H) {a : Addr} {u : HO} (h : F a = some u) : Rd H a u := by
  rcases x a u h with z | ⟨_, o, z⟩
  · exact .inl z
  · exact .inr ⟨o, z⟩
theorem FEx.emp {F H : Hp} (x : FEx F H) {a : Addr} (h : H a = none) : F a = none := by
  cases q : F a with
  | none => rfl
  | some u =>
    rcases x a u q with z | ⟨_, o, z⟩
    · rw [h] at z; cases z
    · rw [h] at z; cases z
theorem FEx.un {F H : Hp} (x : FEx F H) (n : NoLk H) {a : Addr} {u : HO} (h : F a = some u) : H a = some u := by
  rcases x a u h with z | ⟨d, o, z⟩
  · exact z
  · exact absurd z (n a o u d)
theorem Grow.refl {F H : Hp} (x : FEx F H) : Grow F H F H := ⟨Same.refl F, x, Same.refl H, fun _ h => .inl h, fun _ _ _ _ h => h⟩
theorem Grow.trans {F H F1 H1 F2 H2 : Hp} (a : Grow F H F1 H1) (b : Grow F1 H1 F2 H2) : Grow F H F2 H2 where
  fs := a.fs.trans b.fs
  fx := b.fx
  hs := a.hs.trans b.hs
  nw := fun x h => by
    rcases b.nw x h with z | z
    · exact a.nw x z
    · exact .inr (a.hs.free z)
  nf := fun x o u d h => a.nf x o u d (b.nf x o u d h)
theorem Grow.nl {F H F' H' : Hp} (a : Grow F H F' H') (n : NoLk H) : NoLk H' := fun x o u d h => n x o u d (a.nf x o u d h)
/- the heap alone grows -/
theorem FEx.up {F H H' : Hp} (x : FEx F H) (s : Same H H') : FEx F H' := fun a u h => by
  rcases x a u h with z | ⟨d, o, z⟩
  · exact .inl (s _ _ z)
  · exact .inr ⟨d, o, s _ _ z⟩
theorem sameNew {H : Hp} {p : Addr} {o : HO} (h : H p = none) : Same H (upd H p o) := fun a u e => by rw [upd_ne (ne_of_none e h)]; exact e
def isF : HO → Prop
  | .frz _ _ => True
  | _ => False
/- a new object, not (yet) in F -/
theorem Grow.obj {F H : Hp} {p : Addr} {o : HO} (x : FEx F H) (h : H p = none) (d : ¬ isF o) : Grow F H F (upd H p o) where
  fs := Same.refl F
  fx := x.up (sameNew h)
  hs := sameNew h
  nw := fun _ h => .inl h
  nf := fun a ob u _ e => by
    by_cases q : a = p
    · subst q
      rw [upd_same] at e
      have e' := Option.some.inj e
      rw [e'] at d
      exact absurd trivial d
    · rw [upd_ne q] at e; exact e
/- a new object, in F at once -/
theorem Grow.put {F H : Hp} {p : Addr} {o : HO} (x : FEx F H) (h : H p = none) (d : ¬ isF o) : Grow F H (upd F p o) (upd H p o) where
  fs := sameNew (x.emp h)
  fx := fun a u e => by
    by_cases q : a = p
    · subst q
      rw [upd_same] at e ⊢
      exact .inl e
    · rw [upd_ne q] at e ⊢
      exact x a u e
  hs := sameNew h
  nw := fun a e => by
    by_cases q : a = p
    · subst q; exact .inr h
    · rw [upd_ne q] at e; exact .inl e
  nf := (Grow.obj x h d).nf
/- what stands in H goes into F -/
theorem Grow.frz {F0 H0 F H : Hp} {p : Addr} {o : HO} (g : Grow F0 H0 F H) (h0 : H0 p = none) (hf : F p = none) (h : H p = some o) : Grow F0 H0 (upd F p o) H where
  fs := g.fs.trans (sameNew hf)
  fx := fun a u e => by
    by_cases q : a = p
    · subst q
      rw [upd_same] at e
      have e' := Option.some.inj e
      subst e'
      exact .inl h
    · rw [upd_ne q] at e; exact g.fx a u e
  hs := g.hs
  nw := fun a e => by
    by_cases q : a = p
    · subst q; exact .inr h0
    · rw [upd_ne q] at e; exact g.nw a e
  nf := g.nf
/- an object of one's own (not in F, younger than the entry) is changed -/
theorem Grow.chg {F0 H0 F H : Hp} {p : Addr} {o : HO} (g : Grow F0 H0 F H) (h0 : H0 p = none) (hf : F p = none) (d : ¬ isF o) : Grow F0 H0 F (upd H p o) where
  fs := g.fs
  fx := fun a u e => by
    have q : a ≠ p := fun z => by rw [z, hf] at e; cases e
    rw [upd_ne q]; exact g.fx a u e
  hs := fun a u e => by
    have q : a ≠ p := fun z => by rw [z, h0] at e; cases e
    rw [upd_ne q]; exact g.hs a u e
  nw := g.nw
  nf := fun a ob u di e => by
    by_cases q : a = p
    · subst q
      rw [upd_same] at e
      have e' := Option.some.inj e
      rw [e'] at d
      exact absurd trivial d
    · rw [upd_ne q] at e; exact g.nf a ob u di e

theorem Grow.stays {F H F' H' : Hp} {l : Addr} {o : HO} (g : Grow F H F' H') (h : F l = none) (q : H l = some o) : F' l = none := by
  cases e : F' l with
  | none => rfl
  | some u =>
    rcases g.nw l (by rw [e]; simp) with z | z
    · exact absurd h z
    · rw [q] at z; cases z

/- ## facts, codecs, kinds of results -/
structure Fact where
  p : V → Hp → Prop
  mono : ∀ v F F', Same F F' → p v F → p v F'
structure MFact where
  p : HO → Hp → Prop
  mono : ∀ o F F', Same F F' → p o F → p o F'
  nofrz : ∀ o F, p o F → ¬ isF o
/- an object of one's own with others of one's own (R) behind it -/
structure OFact where
  p : Addr → HO → Hp → Hp → Prop
  mono : ∀ l o R F F', Same F F' → p l o R F → p l o R F'
  nofrz : ∀ l o R F, p l o R F → ¬ isF o ∧ ∀ a u, R a = some u → ¬ isF u
structure Cd (α : Type) where
  rep : α → V → Hp → Prop
  mono : ∀ a v F F', Same F F' → rep a v F → rep a v F'
def Cd.at {α : Type} (C : Cd α) (a : α) : Fact := ⟨C.rep a, C.mono a⟩
/- flat: nothing of the heap is asked -/
def Cd.Flat {α : Type} (C : Cd α) : Prop := ∀ a v F F', C.rep a v F → C.rep a v F'
inductive En where
  | no
  | fz (φ : Fact)
  | mu (ψ : MFact)
  | ow (χ : OFact)
structure Rk (α : Type) where
  p : α → V → Hp → Hp → Hp → Prop
  back : ∀ a v H H1 F' H', Same H H1 → p a v H1 F' H' → p a v H F' H'
  fwd : ∀ a v H F' H' F'' H'', Same H H' → Grow F' H' F'' H'' → p a v H F' H' → p a v H F'' H''
  unl : ∀ a v H0 F' H' d x u, p a v (upd H0 d x) F' H' → p a v H0 F' (upd H' d u)
/- a value, its data in F -/
def fr {α : Type} (C : Cd α) : Rk α where
  p := fun a v _ F _ => C.rep a v F
  back := fun _ _ _ _ _ _ _ h => h
  fwd := fun a v _ _ _ _ _ _ g h => C.mono a v _ _ g.fs h
  unl := fun _ _ _ _ _ _ _ _ h => h
/- a new object of one's own -/
def nw {α : Type} (M : α → MFact) : Rk α where
  p := fun a v H F' H' => ∃ l o, v = .ref l ∧ H l = none ∧ H' l = some o ∧ F' l = none ∧ (M a).p o F'
  back := fun _ _ _ _ _ _ s ⟨l, o, h1, h2, h3⟩ => ⟨l, o, h1, s.free h2, h3⟩
  fwd := fun a v H F' H' F'' H'' s g ⟨l, o, h1, h2, h3, h4, h5⟩ => ⟨l, o, h1, h2, g.hs _ _ h3, g.stays h4 h3, (M a).mono _ _ _ g.fs h5⟩
  unl := fun a v H0 F' H' d x u ⟨l, o, h1, h2, h3, h4, h5⟩ => by
    have ne : l ≠ d := fun z => by rw [z, upd_same] at h2; cases h2
    rw [upd_ne ne] at h2
    exact ⟨l, o, h1, h2, by rw [upd_ne ne]; exact h3, h4, h5⟩
/- the result leans on nothing of F -/
def Rk.Indep {α : Type} (k : Rk α) : Prop := ∀ a v H F F' H', Same F F' → k.p a v H F' H' → k.p a v H F H'
theorem fr_indep {α : Type} {C : Cd α} (h : C.Flat) : (fr C).Indep := fun a v _ _ _ _ _ q => h a v _ _ q
theorem nw_indep {α : Type} {M : α → MFact} (h : ∀ a o F F', (M a).p o F → (M a).p o F') : (nw M).Indep := fun a v H F F' H' s ⟨l, o, h1, h2, h3, h4, h5⟩ =>
  ⟨l, o, h1, h2, h3, s.free h4, h a o _ _ h5⟩

/- ## the environment -/
def OwAt (H0 : Hp) (Γ : List En) (σ : St) (F H : Hp) (i : Nat) (χ : OFact) (l : Addr) (o : HO) (R : Hp) : Prop :=
  σ[i]? = some (some (.ref l)) ∧ H l = some o ∧ F l = none ∧ H0 l = none ∧ R l = none ∧ (∀ a u, R a = some u → H a = some u ∧ F a = none ∧ H0 a = none) ∧ χ.p l o R F ∧
    ∀ (j : Nat) (ψ : MFact) (m : Addr), Γ[j]? = some (.mu ψ) → σ[j]? = some (some (.ref m)) → m ≠ l ∧ R m = none
theorem OwAt.to {H0 H0' F F' H H' : Hp} {Γ Γ' : List En} {σ σ' : St} {i : Nat} {χ : OFact} {l : Addr} {o : HO} {R : Hp} (w : OwAt H0 Γ σ F H i χ l o R) (hs : σ'[i]? = σ[i]?) (hl : ∀ a u, H a = some u → F a = none → H0 a = none → (a = l ∨ R a ≠ none) → H' a = some u ∧ F' a = none ∧ H0' a = none) (hF : Same F F')
    (hm : ∀ (j : Nat) (ψ : MFact) (m : Addr), Γ'[j]? = some (.mu ψ) → σ'[j]? = some (some (.ref m)) → (∃ ψ0, Γ[j]? = some (.mu ψ0) ∧ σ[j]? = some (some (.ref m))) ∨ (m ≠ l ∧ R m = none)) : OwAt H0' Γ' σ' F' H' i χ l o R := by
  obtain ⟨w1, w2, w3, w4, w5, w6, w7, w8⟩ := w
  obtain ⟨a1, a2, a3⟩ := hl l o w2 w3 w4 (.inl rfl)
  refine ⟨hs.trans w1, a1, a2, a3, w5, fun a u e => ?_, χ.mono _ _ _ _ _ hF w7, fun j ψ m e1 e2 => ?_⟩
  · obtain ⟨b1, b2, b3⟩ := w6 a u e
    exact hl a u b1 b2 b3 (.inr (by rw [e]; simp))
  · rcases hm j ψ m e1 e2 with ⟨ψ0, e3, e4⟩ | q
    · exact w8 j ψ0 m e3 e4
    · exact q
theorem set_back {Γ : List En} {i j : Nat} {x e : En} (h : (Γ.set i x)[j]? = some e) (n : x ≠ e) : i ≠ j ∧ Γ[j]? = some e := by
  by_cases q : i = j
  · subst q
    by_cases hi : i < Γ.length
    · rw [List.getElem?_set_self hi] at h; exact absurd (Option.some.inj h) n
    · rw [List.getElem?_eq_none (by rw [List.length_set]; omega)] at h; cases h
  · rw [List.getElem?_set_ne q] at h; exact ⟨q, h⟩
structure Sat (b : Bool) (F0 H0 : Hp) (Γ : List En) (σ : St) (F H : Hp) : Prop where
  gr : Grow F0 H0 F H
  nl : b = true → NoLk H
  len : σ.length = Γ.length
  fz : ∀ (i : Nat) (φ : Fact), Γ[i]? = some (.fz φ) → ∃ v, σ[i]? = some (some v) ∧ φ.p v F
  mu : ∀ (i : Nat) (ψ : MFact), Γ[i]? = some (.mu ψ) → ∃ l o, σ[i]? = some (some (.ref l)) ∧ H l = some o ∧ F l = none ∧ H0 l = none ∧ ψ.p o F
  ne : ∀ (i j : Nat) (ψ ψ' : MFact) (l : Addr), Γ[i]? = some (.mu ψ) → Γ[j]? = some (.mu ψ') → σ[i]? = some (some (.ref l)) → σ[j]? = some (some (.ref l)) → i = j
  ow : ∀ (i : Nat) (χ : OFact), Γ[i]? = some (.ow χ) → ∃ l o R, OwAt H0 Γ σ F H i χ l o R
  ow1 : ∀ (i j : Nat) (χ χ' : OFact), Γ[i]? = some (.ow χ) → Γ[j]? = some (.ow χ') → i = j
section
variable {b : Bool} {F0 H0 F H F' H' : Hp} {Γ Γ' : List En} {σ : St}
theorem Sat.grow (S : Sat b F0 H0 Γ σ F H) (g : Grow F H F' H') : Sat b F0 H0 Γ σ F' H' where
  gr := S.gr.trans g
  nl := fun e => g.nl (S.nl e)
  len := S.len
  fz := fun i φ h => let ⟨v, h1, h2⟩ := S.fz i φ h; ⟨v, h1, φ.mono _ _ _ g.fs h2⟩
  mu := fun i ψ h => let ⟨l, o, h1, h2, h3, h4, h5⟩ := S.mu i ψ h; ⟨l, o, h1, g.hs _ _ h2, g.stays h3 h2, h4, ψ.mono _ _ _ g.fs h5⟩
  ne := S.ne
  ow := fun i χ e => by
    obtain ⟨l, o, R, w⟩ := S.ow i χ e
    exact ⟨l, o, R, w.to rfl (fun a u h1 h2 h3 _ => ⟨g.hs _ _ h1, g.stays h2 h1, h3⟩) g.fs fun j ψ m e1 e2 => .inl ⟨ψ, e1, e2⟩⟩
  ow1 := S.ow1
/- a value goes into slot i -/
theorem Sat.put {i : Nat} {φ : Fact} {v : V} (S : Sat b F0 H0 Γ σ F H) (h : φ.p v F) : Sat b F0 H0 (Γ.set i (.fz φ)) (σ.set i (some v)) F H where
  gr := S.gr
  nl := S.nl
  len := by rw [List.length_set, List.length_set]; exact S.len
  fz := fun j φ' e => by
    by_cases q : i = j
    · subst q
      by_cases hi : i < Γ.length
      · rw [List.getElem?_set_self hi] at e
        have e' := Option.some.inj e
        cases e'
        exact ⟨v, by rw [List.getElem?_set_self (by rw [S.len]; exact hi)], h⟩
      · rw [List.getElem?_eq_none (by rw [List.length_set]; omega)] at e; cases e
    · rw [List.getElem?_set_ne q] at e ⊢
      exact S.fz j φ' e
  mu := fun j ψ e => by
    by_cases q : i = j
    · subst q
      by_cases hi : i < Γ.length
      · rw [List.getElem?_set_self hi] at e; cases e
      · rw [List.getElem?_eq_none (by rw [List.length_set]; omega)] at e; cases e
    · rw [List.getElem?_set_ne q] at e ⊢
      exact S.mu j ψ e
  ne := fun j k ψ ψ' l e1 e2 e3 e4 => by
    by_cases q : i = j
    · subst q
      by_cases hi : i < Γ.length
      · rw [List.getElem?_set_self hi] at e1; cases e1
      · rw [List.getElem?_eq_none (by rw [List.length_set]; omega)] at e1; cases e1
    · by_cases q' : i = k
      · subst q'
        by_cases hi : i < Γ.length
        · rw [List.getElem?_set_self hi] at e2; cases e2
        · rw [List.getElem?_eq_none (by rw [List.length_set]; omega)] at e2; cases e2
      · rw [List.getElem?_set_ne q] at e1 e3
        rw [List.getElem?_set_ne q'] at e2 e4
        exact S.ne j k ψ ψ' l e1 e2 e3 e4
  ow := fun j χ e => by
    obtain ⟨q, e'⟩ := set_back e (fun z => nomatch z)
    obtain ⟨l, o, R, w⟩ := S.ow j χ e'
    refine ⟨l, o, R, w.to (by rw [List.getElem?_set_ne q]) (fun a u h1 h2 h3 _ => ⟨h1, h2, h3⟩) (Same.refl _) fun k ψ m e1 e2 => ?_⟩
    obtain ⟨q', e1'⟩ := set_back e1 (fun z => nomatch z)
    rw [List.getElem?_set_ne q'] at e2
    exact .inl ⟨ψ, e1', e2⟩
  ow1 := fun j k χ χ' e1 e2 => S.ow1 j k χ χ' (set_back e1 (fun z => nomatch z)).2 (set_back e2 (fun z => nomatch z)).2
/- a new object of one's own goes into slot i -/
theorem Sat.own {i : Nat} {ψ : MFact} {l : Addr} {o : HO} (S : Sat b F0 H0 Γ σ F H) (h1 : H l = some o) (h2 : F l = none) (h3 : H0 l = none) (h : ψ.p o F)
    (nd : ∀ (j : Nat) (ψ' : MFact), j ≠ i → Γ[j]? = some (.mu ψ') → σ[j]? ≠ some (some (.ref l))) (no : ∀ (j : Nat) (χ : OFact), Γ[j]? = some (.ow χ) → ∃ l' o' R, OwAt H0 Γ σ F H j χ l' o' R ∧ l ≠ l' ∧ R l = none) : Sat b F0 H0 (Γ.set i (.mu ψ)) (σ.set i (some (.ref l))) F H where
  gr := S.gr
  nl := S.nl
  len := by rw [List.length_set, List.length_set]; exact S.len
  fz := fun j φ' e => by
    by_cases q : i = j
    · subst q
      by_cases hi : i < Γ.length
      · rw [List.getElem?_set_self hi] at e; cases e
      · rw [List.getElem?_eq_none (by rw [List.length_set]; omega)] at e; cases e
    · rw [List.getElem?_set_ne q] at e ⊢
      exact S.fz j φ' e
  mu := fun j ψ' e => by
    by_cases q : i = j
    · subst q
      by_cases hi : i < Γ.length
      · rw [List.getElem?_set_self hi] at e
        have e' := Option.some.inj e
        cases e'
        exact ⟨l, o, by rw [List.getElem?_set_self (by rw [S.len]; exact hi)], h1, h2, h3, h⟩
      · rw [List.getElem?_eq_none (by rw [List.length_set]; omega)] at e; cases e
    · rw [List.getElem?_set_ne q] at e ⊢
      exact S.mu j ψ' e
  ne := fun j k ψ1 ψ2 m e1 e2 e3 e4 => by
    by_cases hi : i < Γ.length
    · by_cases q : i = j
      · subst q
        by_cases q' : i = k
        · exact q'
        · rw [List.getElem?_set_self (by rw [S.len]; exact hi)] at e3
          rw [List.getElem?_set_ne q'] at e2 e4
          have e5 : l = m := by injection e3 with z; injection z with z; injection z
          subst e5
          exact absurd e4 (nd k ψ2 (Ne.symm q') e2)
      · by_cases q' : i = k
        · subst q'
          rw [List.getElem?_set_self (by rw [S.len]; exact hi)] at e4
          rw [List.getElem?_set_ne q] at e1 e3
          have e5 : l = m := by injection e4 with z; injection z with z; injection z
          subst e5
          exact absurd e3 (nd j ψ1 (Ne.symm q) e1)
        · rw [List.getElem?_set_ne q] at e1 e3
          rw [List.getElem?_set_ne q'] at e2 e4
          exact S.ne j k ψ1 ψ2 m e1 e2 e3 e4
    · have e0 : Γ.set i (.mu ψ) = Γ := List.set_eq_of_length_le (by omega)
      have e9 : σ.set i (some (.ref l)) = σ := List.set_eq_of_length_le (by rw [S.len]; omega)
      rw [e0] at e1 e2
      rw [e9] at e3 e4
      exact S.ne j k ψ1 ψ2 m e1 e2 e3 e4
  ow := fun j χ e => by
    obtain ⟨q, e'⟩ := set_back e (fun z => nomatch z)
    obtain ⟨l', o', R, w, n1, n2⟩ := no j χ e'
    refine ⟨l', o', R, w.to (by rw [List.getElem?_set_ne q]) (fun a u h1 h2 h3 _ => ⟨h1, h2, h3⟩) (Same.refl _) fun k ψ' m e1 e2 => ?_⟩
    by_cases c : i = k
    · subst c
      by_cases hi : i < Γ.length
      · rw [List.getElem?_set_self (by rw [S.len]; exact hi)] at e2
        have e5 : l = m := by injection e2 with z; injection z with z; injection z
        subst e5
        exact .inr ⟨n1, n2⟩
      · rw [List.getElem?_eq_none (by rw [List.length_set, S.len]; omega)] at e2; cases e2
    · rw [List.getElem?_set_ne c] at e1 e2
      exact .inl ⟨ψ', e1, e2⟩
  ow1 := fun j k χ χ' e1 e2 => S.ow1 j k χ χ' (set_back e1 (fun z => nomatch z)).2 (set_back e2 (fun z => nomatch z)).2
/- one's own object in slot i is changed -/
theorem Sat.chg {i : Nat} {ψ ψ' : MFact} {l : Addr} {o o' : HO} (S : Sat b F0 H0 Γ σ F H) (hg : Γ[i]? = some (.mu ψ)) (hs : σ[i]? = some (some (.ref l))) (hl : H l = some o) (h2 : F l = none) (h3 : H0 l = none) (h : ψ'.p o' F) :
    Sat b F0 H0 (Γ.set i (.mu ψ')) σ F (upd H l o') where
  gr := S.gr.chg h3 h2 (ψ'.nofrz _ _ h)
  nl := fun e a ob u d q => by
    by_cases z : a = l
    · subst z
      rw [upd_same] at q
      have q' := Option.some.inj q
      have nf := ψ'.nofrz _ _ h
      rw [q'] at nf
      exact nf trivial
    · rw [upd_ne z] at q; exact S.nl e a ob u d q
  len := by rw [List.length_set]; exact S.len
  fz := fun j φ' e => by
    by_cases q : i = j
    · subst q
      by_cases hi : i < Γ.length
      · rw [List.getElem?_set_self hi] at e; cases e
      · rw [List.getElem?_eq_none (by rw [List.length_set]; omega)] at e; cases e
    · rw [List.getElem?_set_ne q] at e
      exact S.fz j φ' e
  mu := fun j ψ1 e => by
    by_cases q : i = j
    · subst q
      by_cases hi : i < Γ.length
      · rw [List.getElem?_set_self hi] at e
        have e' := Option.some.inj e
        cases e'
        exact ⟨l, o', hs, upd_same, h2, h3, h⟩
      · rw [List.getElem?_eq_none (by rw [List.length_set]; omega)] at e; cases e
    · rw [List.getElem?_set_ne q] at e
      obtain ⟨m, om, q1, q2, q3, q4, q5⟩ := S.mu j ψ1 e
      have ne : m ≠ l := fun z => by subst z; exact q (S.ne i j ψ ψ1 m hg e hs q1)
      exact ⟨m, om, q1, by rw [upd_ne ne]; exact q2, q3, q4, q5⟩
  ne := fun j k ψ1 ψ2 m e1 e2 e3 e4 => by
    have up : ∀ (t : Nat) (ψt : MFact), (Γ.set i (.mu ψ'))[t]? = some (.mu ψt) → ∃ ψ0, Γ[t]? = some (.mu ψ0) := fun t ψt e => by
      by_cases q : i = t
      · subst q; exact ⟨_, hg⟩
      · rw [List.getElem?_set_ne q] at e; exact ⟨_, e⟩
    obtain ⟨a1, b1⟩ := up j ψ1 e1
    obtain ⟨a2, b2⟩ := up k ψ2 e2
    exact S.ne j k a1 a2 m b1 b2 e3 e4
  ow := fun j χ e => by
    obtain ⟨q, e'⟩ := set_back e (fun z => nomatch z)
    obtain ⟨l', o1, R, w⟩ := S.ow j χ e'
    have sep := w.2.2.2.2.2.2.2 i ψ l hg hs
    refine ⟨l', o1, R, w.to rfl (fun a u h1 h2 h3 c => ?_) (Same.refl _) fun k ψ1 m e1 e2 => ?_⟩
    · have ne : a ≠ l := fun z => by
        subst z
        rcases c with c | c
        · exact sep.1 c
        · exact c sep.2
      exact ⟨by rw [upd_ne ne]; exact h1, h2, h3⟩
    · by_cases c : i = k
      · subst c; exact .inl ⟨ψ, hg, e2⟩
      · rw [List.getElem?_set_ne c] at e1; exact .inl ⟨ψ1, e1, e2⟩
  ow1 := fun j k χ χ' e1 e2 => S.ow1 j k χ χ' (set_back e1 (fun z => nomatch z)).2 (set_back e2 (fun z => nomatch z)).2
/- forgetting -/
inductive EnvLe : List En → List En → Prop
  | nil : EnvLe [] []
  | no {e Γ Γ'} : EnvLe Γ Γ' → EnvLe (e :: Γ) (.no :: Γ')
  | keep {e Γ Γ'} : EnvLe Γ Γ' → EnvLe (e :: Γ) (e :: Γ')
theorem EnvLe.refl : ∀ Γ : List En, EnvLe Γ Γ
  | [] => .nil
  | _ :: Γ => .keep (EnvLe.refl Γ)
theorem EnvLe.len {Γ Γ' : List En} (h : EnvLe Γ Γ') : Γ.length = Γ'.length := by
  induction h with
  | nil => rfl
  | no _ ih => simp [ih]
  | keep _ ih => simp [ih]
theorem EnvLe.get {Γ Γ' : List En} (h : EnvLe Γ Γ') : ∀ (i : Nat) (e : En), Γ'[i]? = some e → e ≠ .no → Γ[i]? = some e := by
  induction h with
  | nil => intro i e h; simp at h
  | no _ ih =>
    intro i e h n
    cases i with
    | zero => simp at h; exact absurd h.symm n
    | succ i => simp at h ⊢; exact ih i e h n
  | keep _ ih =>
    intro i e h n
    cases i with
    | zero => simp at h ⊢; exact h
    | succ i => simp at h ⊢; exact ih i e h n
theorem Sat.le (S : Sat b F0 H0 Γ σ F H) (h : EnvLe Γ Γ') : Sat b F0 H0 Γ' σ F H where
  gr := S.gr
  nl := S.nl
  len := S.len.trans h.len
  fz := fun i φ e => S.fz i φ (h.get i _ e (fun z => nomatch z))
  mu := fun i ψ e => S.mu i ψ (h.get i _ e (fun z => nomatch z))
  ne := fun i j ψ ψ' l e1 e2 => S.ne i j ψ ψ' l (h.get i _ e1 (fun z => nomatch z)) (h.get j _ e2 (fun z => nomatch z))
  ow := fun i χ e => by
    obtain ⟨l, o, R, w⟩ := S.ow i χ (h.get i _ e (fun z => nomatch z))
    exact ⟨l, o, R, w.to rfl (fun a u h1 h2 h3 _ => ⟨h1, h2, h3⟩) (Same.refl _) fun k ψ m e1 e2 => .inl ⟨ψ, h.get k _ e1 (fun z => nomatch z), e2⟩⟩
  ow1 := fun i j χ χ' e1 e2 => S.ow1 i j χ χ' (h.get i _ e1 (fun z => nomatch z)) (h.get j _ e2 (fun z => nomatch z))
/- one's own object in slot i goes into F -/
theorem Sat.frz {i : Nat} {ψ : MFact} {φ : Fact} (S : Sat b F0 H0 Γ σ F H) (hg : Γ[i]? = some (.mu ψ)) (hq : ∀ l o F, F l = none → ψ.p o F → φ.p (.ref l) (upd F l o)) :
    ∃ l o, σ[i]? = some (some (.ref l)) ∧ H l = some o ∧ F l = none ∧ ψ.p o F ∧ Sat b F0 H0 (Γ.set i (.fz φ)) σ (upd F l o) H := by
  obtain ⟨l, o, h1, h2, h3, h4, h5⟩ := S.mu i ψ hg
  have hs : Same F (upd F l o) := sameNew h3
  refine ⟨l, o, h1, h2, h3, h5, S.gr.frz h4 h3 h2, S.nl, by rw [List.length_set]; exact S.len, fun j φ' e => ?_, fun j ψ' e => ?_, fun j k ψ1 ψ2 m e1 e2 e3 e4 => ?_, fun j χ e => ?_, fun j k χ χ' e1 e2 => S.ow1 j k χ χ' (set_back e1 (fun z => nomatch z)).2 (set_back e2 (fun z => nomatch z)).2⟩
  · by_cases q : i = j
    · subst q
      have hi : i < Γ.length := (List.getElem?_eq_some_iff.mp hg).1
      rw [List.getElem?_set_self hi] at e
      have e' := Option.some.inj e
      cases e'
      exact ⟨_, h1, hq l o F h3 h5⟩
    · rw [List.getElem?_set_ne q] at e
      obtain ⟨v, q1, q2⟩ := S.fz j φ' e
      exact ⟨v, q1, φ'.mono _ _ _ hs q2⟩
  · by_cases q : i = j
    · subst q
      have hi : i < Γ.length := (List.getElem?_eq_some_iff.mp hg).1
      rw [List.getElem?_set_self hi] at e; cases e
    · rw [List.getElem?_set_ne q] at e
      obtain ⟨m, om, q1, q2, q3, q4, q5⟩ := S.mu j ψ' e
      have ne : m ≠ l := fun z => by subst z; exact q (S.ne i j ψ ψ' m hg e h1 q1)
      exact ⟨m, om, q1, q2, by rw [upd_ne ne]; exact q3, q4, ψ'.mono _ _ _ hs q5⟩
  · have up : ∀ (t : Nat) (ψt : MFact), (Γ.set i (.fz φ))[t]? = some (.mu ψt) → Γ[t]? = some (.mu ψt) := fun t ψt e => by
      by_cases q : i = t
      · subst q
        have hi : i < Γ.length := (List.getElem?_eq_some_iff.mp hg).1
        rw [List.getElem?_set_self hi] at e; cases e
      · rw [List.getElem?_set_ne q] at e; exact e
    exact S.ne j k ψ1 ψ2 m (up j _ e1) (up k _ e2) e3 e4
  · obtain ⟨q, e'⟩ := set_back e (fun z => nomatch z)
    obtain ⟨l', o1, R, w⟩ := S.ow j χ e'
    have sep := w.2.2.2.2.2.2.2 i ψ l hg h1
    refine ⟨l', o1, R, w.to rfl (fun a u b1 b2 b3 c => ?_) hs fun k ψ1 m e1 e2 => ?_⟩
    · have ne : a ≠ l := fun z => by
        subst z
        rcases c with c | c
        · exact sep.1 c
        · exact c sep.2
      exact ⟨b1, by rw [upd_ne ne]; exact b2, b3⟩
    · obtain ⟨q', e1'⟩ := set_back e1 (fun z => nomatch z)
      exact .inl ⟨ψ1, e1', e2⟩
end

/- ## the weakest readings -/
/- shut, so that Lean does not look into it while it elaborates a rule -/
structure Shut (p : Prop) : Prop where
  get : p
section
variable (X : Cx)
def wE (e : Expr) : TE := fun σ H Q => Shut (∀ pins s, Inv X pins σ H s → wpAny (model X.prog X.w) X.A (eval e X.env) (EP X pins σ Q) X.xe s)
def wT (e : Expr) : TT := fun σ H Q => Shut (∀ pins s, Inv X pins σ H s → wpAny (model X.prog X.w) X.A (isTrue e X.env (eval e X.env)) (TP X pins σ Q) X.xe s)
def wA (es : List Expr) : TA := fun σ H Q => Shut (∀ pos pins s, Inv X pins σ H s → wpAny (model X.prog X.w) X.A (spliced (backTo pos (starEach es X.env))) (AP X pins σ Q) X.xe s)
def wS (sts : List Stmt) : TS := fun D σ H => Shut (∀ pins s, Inv X pins σ H s → wpAny (model X.prog X.w) X.A (execs sts X.env) (SP X pins D) X.xe s)
def wI (tg iter : Expr) : TI := fun σ H R => Shut (∀ pins s, Inv X pins σ H s → wpAny (model X.prog X.w) X.A (eval iter X.env) (fun v s1 => wpAny (model X.prog X.w) X.A (pyIter v) (PIE X pins σ tg R) X.xe s1) X.xe s)
end
section
variable {X : Cx}
theorem pe_w {e : Expr} : PE X e (wE X e) := ⟨fun pins s _ _ _ I h => h.get pins s I⟩
theorem pt_w {e : Expr} : PT X e (wT X e) := ⟨fun pins s _ _ _ I h => h.get pins s I⟩
theorem pa_w {es : List Expr} : PA X es (wA X es) := ⟨fun pos pins s _ _ _ I h => h.get pos pins s I⟩
theorem pss_w {sts : List Stmt} : PSs X sts (wS X sts) := ⟨fun pins s _ _ _ I h => h.get pins s I⟩
theorem pi_w {tg iter : Expr} : PI X tg iter (wI X tg iter) := ⟨fun pins s _ _ _ I h => h.get pins s I⟩
theorem wE_of {e : Expr} {t : TE} (h : PE X e t) {σ : St} {H : Hp} {Q : VK} (q : t σ H Q) : wE X e σ H Q := ⟨fun pins s I => h.run pins s σ H Q I q⟩
theorem wT_of {e : Expr} {t : TT} (h : PT X e t) {σ : St} {H : Hp} {Q : Bool → Hp → Prop} (q : t σ H Q) : wT X e σ H Q := ⟨fun pins s I => h.run pins s σ H Q I q⟩
theorem wA_of {es : List Expr} {t : TA} (h : PA X es t) {σ : St} {H : Hp} {Q : List V → Hp → Prop} (q : t σ H Q) : wA X es σ H Q := ⟨fun pos pins s I => h.run pos pins s σ H Q I q⟩
theorem wS_of {sts : List Stmt} {t : TS} (h : PSs X sts t) {D : Ends} {σ : St} {H : Hp} (q : t D σ H) : wS X sts D σ H := ⟨fun pins s I => h.run pins s σ H D I q⟩
theorem wI_of {tg iter : Expr} {t : TI} (h : PI X tg iter t) {σ : St} {H : Hp} {R : It → Hp → Prop} (q : t σ H R) : wI X tg iter σ H R := ⟨fun pins s I => h.run pins s σ H R I q⟩
theorem wS_end {D D' : Ends} {sts : List Stmt} {σ : St} {H : Hp} (h : wS X sts D σ H) (nx : ∀ σ' H', D.nx σ' H' → D'.nx σ' H') (rt : ∀ v H', D.rt v H' → D'.rt v H') (bk : ∀ σ' H', D.bk σ' H' → D'.bk σ' H') (ct : ∀ σ' H', D.ct σ' H' → D'.ct σ' H') : wS X sts D' σ H where
  get := fun pins s I => by
    refine thn (h.get pins s I) fun f s1 q => ?_
    cases f with
    | next => obtain ⟨σ', H', I', q⟩ := q; exact ⟨σ', H', I', nx _ _ q⟩
    | brk => obtain ⟨σ', H', I', q⟩ := q; exact ⟨σ', H', I', bk _ _ q⟩
    | cont => obtain ⟨σ', H', I', q⟩ := q; exact ⟨σ', H', I', ct _ _ q⟩
    | ret v => obtain ⟨x, σ', H', I', r, q⟩ := q; exact ⟨x, σ', H', I', r, rt _ _ q⟩
end

/- ## the judgements -/
inductive Out (S R : Type) where
  | nx (s : S)
  | rt (r : R)
def seqO {S S' R : Type} (k : S → Option (Out S' R)) : Out S R → Option (Out S' R)
  | .nx s => k s
  | .rt r => some (.rt r)
def JE (X : Cx) (b : Bool) (e : Expr) (Γ : List En) {α : Type} (k : Rk α) (m : Option α) : Prop :=
  ∀ F0 H0 σ F H, Sat b F0 H0 Γ σ F H → ∀ a, m = some a → ∀ Q : VK, (∀ v F' H', Grow F H F' H' → k.p a v H F' H' → Q v H') → wE X e σ H Q
def JT (X : Cx) (b : Bool) (e : Expr) (Γ : List En) (m : Option Bool) : Prop :=
  ∀ F0 H0 σ F H, Sat b F0 H0 Γ σ F H → ∀ a, m = some a → ∀ Q : Bool → Hp → Prop, (∀ F' H', Grow F H F' H' → Q a H') → wT X e σ H Q
abbrev Args (φs : List Fact) (vs : List V) (F : Hp) : Prop := Paired (fun (φ : Fact) v => φ.p v F) φs vs
def JA (X : Cx) (b : Bool) (es : List Expr) (Γ : List En) {A : Type} (φs : A → List Fact) (m : Option A) : Prop :=
  ∀ F0 H0 σ F H, Sat b F0 H0 Γ σ F H → ∀ a, m = some a → ∀ Q : List V → Hp → Prop, (∀ vs F' H', Grow F H F' H' → Args (φs a) vs F' → Q vs H') → wA X es σ H Q
/- what is walked: the list of its items -/
structure ItOk (J : It) (F : Hp) (vs : List V) : Prop where
  ok : ∃ G Y, Walk J vs.length G Y ∧ (∀ H, FEx F H → G H) ∧ ∀ i H x H', FEx F H → i < vs.length → Y i H x H' → H' = H ∧ vs[i]? = some x
def JI (X : Cx) (b : Bool) (tg iter : Expr) (Γ : List En) {α : Type} (C : Cd α) (m : Option (List α)) : Prop :=
  ∀ F0 H0 σ F H, Sat b F0 H0 Γ σ F H → ∀ xs, m = some xs → ∀ R : It → Hp → Prop, (∀ J F' H' vs, Grow F H F' H' → ItOk J F' vs → Paired (fun a v => C.rep a v F') xs vs → R J H') → wI X tg iter σ H R
/- what is wanted of the ends -/
def Post {S R : Type} (b : Bool) (F0 H0 : Hp) (Γs : S → List En) (k : Rk R) (o : Out S R) (D : Ends) : Prop :=
  match o with
  | .nx s => ∀ σ' F' H', Sat b F0 H0 (Γs s) σ' F' H' → D.nx σ' H'
  | .rt r => ∀ v F' H', Grow F0 H0 F' H' → k.p r v H0 F' H' → D.rt v H'
def JB (X : Cx) (b : Bool) (sts : List Stmt) (Γ : List En) {S R : Type} (Γs : S → List En) (k : Rk R) (m : Option (Out S R)) : Prop :=
  ∀ F0 H0 σ F H, Sat b F0 H0 Γ σ F H → ∀ o, m = some o → ∀ D : Ends, Post b F0 H0 Γs k o D → wS X sts D σ H
end Cw
/- CwStm: statements, loops, defs, calls. -/
namespace Cw
open PySem PySem.Spec L2
open PyProof.Rows hiding St

/- ## mirrors of loops -/
def forO {α S R : Type} (f : S → α → Option (Out S R)) : List α → S → Option (Out S R)
  | [], s => some (.nx s)
  | x :: xs, s => (f s x).bind (seqO (forO f xs))
def whileO {S R : Type} (c : S → Option Bool) (f : S → Option (Out S R)) : Nat → S → Option (Out S R)
  | 0, _ => none
  | n + 1, s => (c s).bind fun t => if t = true then (f s).bind (seqO (whileO c f n)) else some (.nx s)
def bind2 {α β γ : Type} (m : Option α) (n : Option β) (f : α → β → Option γ) : Option γ := m.bind fun a => n.bind fun b => f a b
theorem bind_some {α β : Type} {m : Option α} {f : α → Option β} {b : β} (h : m.bind f = some b) : ∃ a, m = some a ∧ f a = some b := by
  cases m with
  | none => cases h
  | some a => exact ⟨a, rfl, h⟩
theorem bind2_some {α β γ : Type} {m : Option α} {n : Option β} {f : α → β → Option γ} {c : γ} (h : bind2 m n f = some c) : ∃ a b, m = some a ∧ n = some b ∧ f a b = some c := by
  obtain ⟨a, h1, h2⟩ := bind_some h
  obtain ⟨b, h3, h4⟩ := bind_some h2
  exact ⟨a, b, h1, h3, h4⟩

section
variable {X : Cx} {b : Bool} {Γ Γ' : List En} {S R : Type} {Γs : S → List En} {k : Rk R} {rest : List Stmt}
/- ## ends of a block -/
theorem jb_nil {s : S} (h : EnvLe Γ (Γs s)) : JB X b [] Γ Γs k (some (.nx s)) := by
  intro F0 H0 σ F H A o ho D P
  cases ho
  exact wS_of pss_nil (P σ F H (A.le h))
theorem jb_weak {sts : List Stmt} {m : Option (Out S R)} (h : JB X b sts Γ' Γs k m) (e : EnvLe Γ Γ') : JB X b sts Γ Γs k m := fun F0 H0 σ F H A o ho D P => h F0 H0 σ F H (A.le e) o ho D P
theorem jb_ret {e : Expr} {pos : Pos} {m : Option R} (h : JE X b e Γ k m) : JB X b (.Return (some e) pos :: rest) Γ Γs k (m.bind fun a => some (.rt a)) := by
  intro F0 H0 σ F H A o ho D P
  obtain ⟨a, h1, h2⟩ := bind_some ho
  cases h2
  refine wS_of (pss_cons (ps_ret pe_w) (pss_never (sts := rest))) ?_
  exact h F0 H0 σ F H A a h1 _ fun v F' H' g q => P v F' H' (A.gr.trans g) (k.back _ _ _ _ _ _ A.gr.hs q)
theorem jb_retN {pos : Pos} {k : Rk Unit} (hk : ∀ H F' H', k.p () .non H F' H') : JB X b (.Return none pos :: rest) Γ Γs k (some (.rt ())) := by
  intro F0 H0 σ F H A o ho D P
  cases ho
  refine wS_of (pss_cons ps_retN (pss_never (sts := rest))) ?_
  exact P .non F H A.gr (hk _ _ _)
/- one's own object in slot i is returned as such -/
theorem jb_retMu {i : Nat} {x : Str} {p pos : Pos} {M : R → MFact} {a : R} (hN : X.N[i]? = some x) (hv : Vis X.env.scope x) (hg : Γ[i]? = some (.mu (M a))) (hd : (x == ("__debug__" : Str)) = false := by decide) (hcd : (x == ("__classdict__" : Str)) = false := by decide) :
    JB X b (.Return (some (.Name x p)) pos :: rest) Γ Γs (nw M) (some (.rt a)) := by
  intro F0 H0 σ F H A o ho D P
  cases ho
  refine wS_of (pss_cons (ps_ret (pe_var hN hv hd hcd)) (pss_never (sts := rest))) ?_
  obtain ⟨l, o, h1, h2, h3, h4, h5⟩ := A.mu i _ hg
  exact ⟨_, h1, P _ F H A.gr ⟨l, o, rfl, h4, h2, h3, h5⟩⟩
/- ## assignment -/
theorem jb_asg {i : Nat} {x : Str} {e : Expr} {pos pos' : Pos} {α : Type} {C : Cd α} {m : Option α} {f : α → Option (Out S R)} (hN : X.N.Nodup) (hi : X.N[i]? = some x) (hx : Loc X.env.scope x) (he : JE X b e Γ (fr C) m)
    (hr : ∀ a, JB X b rest (Γ.set i (.fz (C.at a))) Γs k (f a)) (hs : swapsWith e (some (.Name x pos')) pos.line X.env = pure false := by rfl)
    (hf : X.fn x = true ∨ X.env.scope.names.lookup x = some .local := by first | exact .inl rfl | exact .inr rfl | assumption) :
    JB X b (.Assign [.Name x pos'] e pos :: rest) Γ Γs k (m.bind f) := by
  intro F0 H0 σ F H A o ho D P
  obtain ⟨a, h1, h2⟩ := bind_some ho
  refine wS_of (pss_cons (ps_set hN hi hx pe_w hs hf) pss_w) ?_
  exact he F0 H0 σ F H A a h1 _ fun v F' H' g q => hr a F0 H0 _ F' H' ((A.grow g).put q) o h2 D P
theorem Sat.ownNew {F0 H0 F H F' H' : Hp} {σ : St} {i : Nat} {ψ : MFact} {l : Addr} {o : HO} (A : Sat b F0 H0 Γ σ F H) (g : Grow F H F' H') (h1 : H l = none) (h2 : H' l = some o) (h3 : F' l = none) (h : ψ.p o F') :
    Sat b F0 H0 (Γ.set i (.mu ψ)) (σ.set i (some (.ref l))) F' H' :=
  (A.grow g).own h2 h3 (A.gr.hs.free h1) h (fun j ψ' _ e z => by
    obtain ⟨l', o', q1, q2, _⟩ := A.mu j ψ' e
    rw [z] at q1
    have e5 : l = l' := by injection q1 with z; injection z with z; injection z
    subst e5
    rw [h1] at q2; cases q2) fun j χ e => by
    obtain ⟨l', o', R, w⟩ := A.ow j χ e
    refine ⟨l', o', R, w.to rfl (fun a u b1 b2 b3 _ => ⟨g.hs _ _ b1, g.stays b2 b1, b3⟩) g.fs fun k ψ m e1 e2 => .inl ⟨ψ, e1, e2⟩, fun z => ?_, ?_⟩
    · subst z; have := w.2.1; rw [h1] at this; cases this
    · cases q : R l with
      | none => rfl
      | some u => have := (w.2.2.2.2.2.1 l u q).1; rw [h1] at this; cases this
theorem jb_asgN {i : Nat} {x : Str} {e : Expr} {pos pos' : Pos} {α : Type} {M : α → MFact} {m : Option α} {f : α → Option (Out S R)} (hN : X.N.Nodup) (hi : X.N[i]? = some x) (hx : Loc X.env.scope x) (he : JE X b e Γ (nw M) m)
    (hr : ∀ a, JB X b rest (Γ.set i (.mu (M a))) Γs k (f a)) (hs : swapsWith e (some (.Name x pos')) pos.line X.env = pure false := by rfl)
    (hf : X.fn x = true ∨ X.env.scope.names.lookup x = some .local := by first | exact .inl rfl | exact .inr rfl | assumption) :
    JB X b (.Assign [.Name x pos'] e pos :: rest) Γ Γs k (m.bind f) := by
  intro F0 H0 σ F H A o ho D P
  obtain ⟨a, h1, h2⟩ := bind_some ho
  refine wS_of (pss_cons (ps_set hN hi hx pe_w hs hf) pss_w) ?_
  refine he F0 H0 σ F H A a h1 _ fun v F' H' g q => ?_
  obtain ⟨l, ob, rfl, q1, q2, q3, q4⟩ := q
  exact hr a F0 H0 _ F' H' (A.ownNew g q1 q2 q3 q4) o h2 D P
/- an expression statement -/
theorem jb_expr {e : Expr} {pos : Pos} {α : Type} {k' : Rk α} {m : Option α} {f : α → Option (Out S R)} (he : JE X b e Γ k' m) (hr : ∀ a, JB X b rest Γ Γs k (f a)) (hs : swapsWith e none pos.line X.env = pure false := by rfl) :
    JB X b (.Expr e pos :: rest) Γ Γs k (m.bind f) := by
  intro F0 H0 σ F H A o ho D P
  obtain ⟨a, h1, h2⟩ := bind_some ho
  refine wS_of (pss_cons (ps_expr pe_w hs) pss_w) ?_
  exact he F0 H0 σ F H A a h1 _ fun v F' H' g q => hr a F0 H0 _ F' H' (A.grow g) o h2 D P
theorem jb_doc {x j p pos} {m : Option (Out S R)} (h : JB X b rest Γ Γs k m) : JB X b (.Expr (.Constant (.str x) j p) pos :: rest) Γ Γs k m := by
  intro F0 H0 σ F H A o ho D P
  exact wS_of (pss_cons ps_doc pss_w) (h F0 H0 σ F H A o ho D P)
/- one's own object is changed no more -/
theorem jb_frz {i : Nat} {ψ : MFact} {φ : Fact} {sts : List Stmt} {m : Option (Out S R)} (hg : Γ[i]? = some (.mu ψ)) (hq : ∀ l o F, F l = none → ψ.p o F → φ.p (.ref l) (upd F l o)) (h : JB X b sts (Γ.set i (.fz φ)) Γs k m) : JB X b sts Γ Γs k m := by
  intro F0 H0 σ F H A o ho D P
  obtain ⟨l, ob, _, _, _, _, A'⟩ := A.frz hg hq
  exact h F0 H0 σ _ H A' o ho D P
/- ## if -/
theorem jb_if {c : Expr} {p : Pos} {yes no : List Stmt} {S' : Type} {Γj : S' → List En} {mc : Option Bool} {m1 m2 : Option (Out S' R)} {f : S' → Option (Out S R)} (hc : JT X b c Γ mc) (h1 : JB X b yes Γ Γj k m1) (h2 : JB X b no Γ Γj k m2)
    (hr : ∀ s, JB X b rest (Γj s) Γs k (f s)) : JB X b (.If c yes no p :: rest) Γ Γs k (mc.bind fun t => (if t = true then m1 else m2).bind (seqO f)) := by
  intro F0 H0 σ F H A o ho D P
  obtain ⟨t, e1, e2⟩ := bind_some ho
  obtain ⟨o1, e3, e4⟩ := bind_some e2
  refine wS_of (pss_cons (ps_if pt_w (pss_w (sts := yes)) (pss_w (sts := no))) pss_w) ?_
  refine hc F0 H0 σ F H A t e1 _ fun F' H' g => ?_
  have A' := A.grow g
  have PP : Post b F0 H0 Γj k o1 { D with nx := wS X rest D } := by
    cases o1 with
    | nx s => exact fun σ' F'' H'' A'' => hr s F0 H0 σ' F'' H'' A'' o e4 D P
    | rt r => cases e4; exact P
  cases t with
  | true =>
    rw [if_pos rfl] at e3 ⊢
    exact h1 F0 H0 σ F' H' A' o1 e3 _ PP
  | false =>
    rw [if_neg Bool.false_ne_true] at e3 ⊢
    exact h2 F0 H0 σ F' H' A' o1 e3 _ PP
/- the yes part ends the block -/
def noE {S R : Type} : Empty → Option (Out S R) := fun e => e.elim
theorem jb_ifr {c : Expr} {p : Pos} {yes : List Stmt} {mc : Option Bool} {m1 : Option (Out Empty R)} {m2 : Option (Out S R)} (hc : JT X b c Γ mc) (h1 : JB X b yes Γ (fun _ : Empty => []) k m1)
    (hr : JB X b rest Γ Γs k m2) : JB X b (.If c yes [] p :: rest) Γ Γs k (mc.bind fun t => if t = true then m1.bind (seqO noE) else m2) := by
  intro F0 H0 σ F H A o ho D P
  obtain ⟨t, e1, e2⟩ := bind_some ho
  refine wS_of (pss_cons (ps_if pt_w (pss_w (sts := yes)) pss_nil) pss_w) ?_
  refine hc F0 H0 σ F H A t e1 _ fun F' H' g => ?_
  have A' := A.grow g
  cases t with
  | true =>
    rw [if_pos rfl] at e2 ⊢
    obtain ⟨o1, e3, e4⟩ := bind_some e2
    cases o1 with
    | nx s => exact s.elim
    | rt r =>
      cases e4
      exact h1 F0 H0 σ F' H' A' (.rt r) e3 _ P
  | false =>
    rw [if_neg Bool.false_ne_true] at e2 ⊢
    exact hr F0 H0 σ F' H' A' o e2 D P
/- both parts end the block -/
theorem jb_if2 {c : Expr} {p : Pos} {yes no : List Stmt} {mc : Option Bool} {m1 m2 : Option (Out Empty R)} (hc : JT X b c Γ mc) (h1 : JB X b yes Γ (fun _ : Empty => []) k m1)
    (h2 : JB X b no Γ (fun _ : Empty => []) k m2) : JB X b (.If c yes no p :: rest) Γ Γs k (mc.bind fun t => (if t = true then m1 else m2).bind (seqO noE)) :=
  jb_if hc h1 h2 fun s => s.elim
/- ## while -/
theorem jb_while {c : Expr} {p : Pos} {body : List Stmt} {T : Type} {Γj : T → List En} {s0 : T} {mc : T → Option Bool} {mb : T → Option (Out T R)} {n : Nat} {f : T → Option (Out S R)} (hp : PassesOwn (model X.prog X.w) X.A X.env X.xe) (h0 : EnvLe Γ (Γj s0))
    (hc : ∀ s, JT X b c (Γj s) (mc s)) (hb : ∀ s, JB X b body (Γj s) Γj k (mb s)) (hr : ∀ s, JB X b rest (Γj s) Γs k (f s)) :
    JB X b (.While c body [] p :: rest) Γ Γs k ((whileO mc mb n s0).bind (seqO f)) := by
  intro F0 H0 σ F H A o ho D P
  obtain ⟨o1, e1, e2⟩ := bind_some ho
  refine wS_of (pss_cons (ps_while hp pt_w (pss_w (sts := body))) pss_w) ?_
  refine ⟨fun m σ H => ∃ s F, Sat b F0 H0 (Γj s) σ F H ∧ whileO mc mb m s = some o1, ⟨n, s0, F, A.le h0, e1⟩, ?_⟩
  rintro m σ1 H1 ⟨s, F1, A1, w⟩
  cases m with
  | zero => cases w
  | succ m =>
    obtain ⟨t, e3, e4⟩ := bind_some (show (mc s).bind (fun t => if t = true then (mb s).bind (seqO (whileO mc mb m)) else some (.nx s)) = some o1 from w)
    refine hc s F0 H0 σ1 F1 H1 A1 t e3 _ fun F2 H2 g => ?_
    have A2 := A1.grow g
    cases t with
    | true =>
      rw [if_pos rfl] at e4 ⊢
      obtain ⟨o2, e5, e6⟩ := bind_some e4
      refine ⟨fun σ' H' => ∃ s F, Sat b F0 H0 (Γj s) σ' F H' ∧ whileO mc mb m s = some o1, fun σ' H' q => ⟨m, Nat.lt_succ_self m, q⟩, ?_⟩
      refine hb s F0 H0 σ1 F2 H2 A2 o2 e5 _ ?_
      cases o2 with
      | nx s' => exact fun σ' F' H' A' => ⟨s', F', A', e6⟩
      | rt r =>
        cases e6
        cases e2
        exact P
    | false =>
      rw [if_neg Bool.false_ne_true] at e4 ⊢
      cases e4
      exact hr s F0 H0 σ1 F2 H2 A2 o e2 D P
/- ## for -/
theorem paired_ix {α β : Type} {G : α → β → Prop} : ∀ {xs : List α} {vs : List β}, Paired G xs vs → ∀ {i : Nat} {v : β}, vs[i]? = some v → ∃ x, xs[i]? = some x ∧ G x v
  | _, _, .nil, i, v, h => by simp at h
  | _, _, .cons h _, 0, v, e => by simp at e; subst e; exact ⟨_, rfl, h⟩
  | _, _, .cons _ t, i + 1, v, e => by
    obtain ⟨x, h1, h2⟩ := paired_ix t (i := i) (by simpa using e)
    exact ⟨x, by simpa using h1, h2⟩
theorem paired_mono {α β : Type} {G G' : α → β → Prop} {xs : List α} {vs : List β} (h : Paired G xs vs) (m : ∀ a b, G a b → G' a b) : Paired G' xs vs := L2.Paired.mapP h m
/- what is frozen now stays: the entry's F may be taken larger -/
theorem Sat.rebase {F0 H0 F1 H1 : Hp} {σ : St} (A : Sat b F0 H0 Γ σ F1 H1) : Sat b F1 H0 Γ σ F1 H1 where
  gr := ⟨Same.refl _, A.gr.fx, A.gr.hs, fun _ h => .inl h, A.gr.nf⟩
  nl := A.nl
  len := A.len
  fz := A.fz
  mu := A.mu
  ne := A.ne
  ow := A.ow
  ow1 := A.ow1
theorem Grow.unbase {F0 H0 F1 H1 F H : Hp} (g : Grow F0 H0 F1 H1) (h : Grow F1 H0 F H) : Grow F0 H0 F H where
  fs := g.fs.trans h.fs
  fx := h.fx
  hs := h.hs
  nw := fun a e => by
    rcases h.nw a e with z | z
    · exact g.nw a z
    · exact .inr z
  nf := h.nf
theorem Sat.unbase {F0 H0 F1 H1 F H : Hp} {σ : St} (g : Grow F0 H0 F1 H1) (A : Sat b F1 H0 Γ σ F H) : Sat b F0 H0 Γ σ F H where
  gr := g.unbase A.gr
  nl := A.nl
  len := A.len
  fz := A.fz
  mu := A.mu
  ne := A.ne
  ow := A.ow
  ow1 := A.ow1
theorem Post.unbase {F0 H0 F1 H1 : Hp} {o : Out S R} {D : Ends} (g : Grow F0 H0 F1 H1) (P : Post b F0 H0 Γs k o D) : Post b F1 H0 Γs k o D := by
  cases o with
  | nx s => exact fun σ' F' H' A => P σ' F' H' (A.unbase g)
  | rt r => exact fun v F' H' h q => P v F' H' (g.unbase h) q
theorem jb_for {i : Nat} {x : Str} {iter : Expr} {body : List Stmt} {p px : Pos} {α : Type} {C : Cd α} {m : Option (List α)} {T : Type} {Γj : T → List En} {s0 : T} {mb : T → α → Option (Out T R)} {f : T → Option (Out S R)}
    (hp : PassesOwn (model X.prog X.w) X.A X.env X.xe) (hcalm : X.calm = true) (hN : X.N.Nodup) (hi : X.N[i]? = some x) (hx : Loc X.env.scope x) (hit : JI X b (.Name x px) iter Γ C m) (h0 : EnvLe Γ (Γj s0))
    (hb : ∀ s a, JB X b body ((Γj s).set i (.fz (C.at a))) Γj k (mb s a)) (hr : ∀ s, JB X b rest (Γj s) Γs k (f s)) (hs : ∀ x, foldedSetIterable iter X.env x = pure x := by intro _; rfl)
    (hf : X.fn x = true ∨ X.env.scope.names.lookup x = some .local := by first | exact .inl rfl | exact .inr rfl | assumption) :
    JB X b (.For (.Name x px) iter body [] p :: rest) Γ Γs k (m.bind fun xs => (forO mb xs s0).bind (seqO f)) := by
  intro F0 H0 σ F H A o ho D P
  obtain ⟨xs, hxs, ho⟩ := bind_some ho
  obtain ⟨o1, e1, e2⟩ := bind_some ho
  refine wS_of (pss_cons (ps_for hp hcalm pi_w (pg_name hN hi hx hf) (pss_w (sts := body)) hs) pss_w) ?_
  refine hit F0 H0 σ F H A xs hxs _ fun J F1 H1 vs g it pr => ?_
  obtain ⟨G, Y, w, hG, hY⟩ := it.ok
  have A1 := (A.grow g).rebase
  have P1 : Post b F1 H0 Γs k o D := P.unbase (A.grow g).gr
  have hl : xs.length = vs.length := Paired.length pr
  refine for_it w (fun n σ H => ∃ s F, Sat b F1 H0 (Γj s) σ F H ∧ forO mb (xs.drop n) s = some o1) ⟨s0, F1, A1.le h0, e1⟩ ?_ ?_ ?_
  · rintro n σ2 H2 hn ⟨s, F2, A2, _⟩
    exact hG H2 fun a u e => A2.gr.fx a u (A2.gr.fs a u e)
  · rintro n v σ2 H2 H3 hn ⟨s, F2, A2, e3⟩ y
    obtain ⟨rfl, hv⟩ := hY n H2 v H3 (fun a u e => A2.gr.fx a u (A2.gr.fs a u e)) hn y
    obtain ⟨a, ha, ra⟩ := paired_ix pr hv
    have hd : xs.drop n = a :: xs.drop (n + 1) := by
      obtain ⟨q1, q2⟩ := List.getElem?_eq_some_iff.mp ha
      rw [List.drop_eq_getElem_cons q1, q2]
    rw [hd] at e3
    obtain ⟨o2, e5, e6⟩ := bind_some (show (mb s a).bind (seqO (forO mb (xs.drop (n + 1)))) = some o1 from e3)
    refine hb s a F1 H0 _ F2 _ (A2.put (C.mono _ _ _ _ A2.gr.fs ra)) o2 e5 _ ?_
    cases o2 with
    | nx s' => exact fun σ' F' H' A' => ⟨s', F', A', e6⟩
    | rt r =>
      cases e6
      cases e2
      exact P1
  · rintro σ2 H2 ⟨s, F2, A2, e3⟩
    rw [← hl, List.drop_length] at e3
    cases e3
    exact hr s F1 H0 σ2 F2 H2 A2 o e2 D P1
end
end Cw
/- CwFun: loops over dicts, defs, calls, names, constants, operators. -/
namespace Cw
open PySem PySem.Spec L2
open PyProof.Rows hiding St

/- ## values that the names of the def give, in any heap -/
def JV (X : Cx) (e : Expr) (Γ : List En) {α : Type} (C : Cd α) (m : Option α) : Prop :=
  ∀ b F0 H0 σ F H, Sat b F0 H0 Γ σ F H → ∀ a, m = some a → ∃ v, C.rep a v F ∧ ∀ H', FEx F H' → ∀ Q : VK, Q v H' → wE X e σ H' Q
section
variable {X : Cx} {b : Bool} {Γ Γ' : List En} {S R : Type} {Γs : S → List En} {k : Rk R} {rest : List Stmt}
theorem jv_var {i : Nat} {x : Str} {pos : Pos} {α : Type} {C : Cd α} {a : α} (hN : X.N[i]? = some x) (hv : Vis X.env.scope x) (hg : Γ[i]? = some (.fz (C.at a))) (hd : (x == ("__debug__" : Str)) = false := by decide) (hcd : (x == ("__classdict__" : Str)) = false := by decide) :
    JV X (.Name x pos) Γ C (some a) := by
  intro b F0 H0 σ F H A a' e
  cases e
  obtain ⟨v, h1, h2⟩ := A.fz i _ hg
  exact ⟨v, h2, fun H' x Q q => wE_of (pe_var hN hv hd hcd) ⟨v, h1, q⟩⟩
theorem JV.je {e : Expr} {α : Type} {C : Cd α} {m : Option α} (h : JV X e Γ C m) : JE X b e Γ (fr C) m := by
  intro F0 H0 σ F H A a ea Q q
  obtain ⟨v, h1, h2⟩ := h b F0 H0 σ F H A a ea
  exact h2 H A.gr.fx Q (q v F H (Grow.refl A.gr.fx) h1)
theorem je_var {i : Nat} {x : Str} {pos : Pos} {α : Type} {C : Cd α} {a : α} (hN : X.N[i]? = some x) (hv : Vis X.env.scope x) (hg : Γ[i]? = some (.fz (C.at a))) (hd : (x == ("__debug__" : Str)) = false := by decide) (hcd : (x == ("__classdict__" : Str)) = false := by decide) :
    JE X b (.Name x pos) Γ (fr C) (some a) := (jv_var hN hv hg hd hcd).je

/- ## dicts with whole-number keys -/
def cD {α : Type} (C : Cd α) : Cd (List (Int × α)) where
  rep := fun kvs v F => ∃ d ks, v = .ref d ∧ F d = some (.dK ks) ∧ Paired (fun (p : Int × α) (q : Key × V) => q.1 = Sum.inl p.1 ∧ C.rep p.2 q.2 F) kvs ks
  mono := fun _ _ _ _ s ⟨d, ks, h1, h2, h3⟩ => ⟨d, ks, h1, s _ _ h2, paired_mono h3 fun _ _ q => ⟨q.1, C.mono _ _ _ _ s q.2⟩⟩
theorem Sat.lock {F0 H0 F H : Hp} {σ : St} {d : Addr} {u : HO} {od : Obj} (A : Sat b F0 H0 Γ σ F H) (hF : F d = some u) (di : isD u) (hH : H d = some u) : Sat false F (upd H0 d (.frz od u)) Γ σ F (upd H d (.frz od u)) where
  gr := ⟨Same.refl _, fun a w e => by
      by_cases q : a = d
      · subst q
        rw [hF] at e; cases e
        exact .inr ⟨di, od, upd_same⟩
      · rw [upd_ne q]; exact A.gr.fx a w e,
    fun a w e => by
      by_cases q : a = d
      · subst q; rw [upd_same] at e ⊢; exact e
      · rw [upd_ne q] at e ⊢; exact A.gr.hs a w e,
    fun _ h => .inl h, fun a ob w dw e => by
      by_cases q : a = d
      · subst q; rw [upd_same] at e ⊢; exact e
      · rw [upd_ne q] at e ⊢; exact A.gr.nf a ob w dw e⟩
  nl := fun z => by cases z
  len := A.len
  fz := A.fz
  mu := fun i ψ e => by
    obtain ⟨l, o, h1, h2, h3, h4, h5⟩ := A.mu i ψ e
    have ne : l ≠ d := fun z => by rw [z, hF] at h3; cases h3
    exact ⟨l, o, h1, by rw [upd_ne ne]; exact h2, h3, by rw [upd_ne ne]; exact h4, h5⟩
  ne := A.ne
  ow := fun i χ e => by
    obtain ⟨l, o, R, w⟩ := A.ow i χ e
    refine ⟨l, o, R, w.to rfl (fun a u b1 b2 b3 _ => ?_) (Same.refl _) fun k ψ m e1 e2 => .inl ⟨ψ, e1, e2⟩⟩
    have ne : a ≠ d := fun z => by rw [z, hF] at b2; cases b2
    exact ⟨by rw [upd_ne ne]; exact b1, b2, by rw [upd_ne ne]; exact b3⟩
  ow1 := A.ow1
theorem Grow.unlock {F0 H0 F H F' H' : Hp} {d : Addr} {u : HO} {od : Obj} (g : Grow F0 H0 F H) (hF : F d = some u) (di : isD u) (hH : H d = some u) (h : Grow F (upd H0 d (.frz od u)) F' H') : Grow F H0 F' (upd H' d u) where
  fs := h.fs
  fx := fun a w e => by
    by_cases q : a = d
    · subst q
      rw [h.fs _ _ hF] at e
      rw [upd_same]; exact .inl e
    · rw [upd_ne q]; exact h.fx a w e
  hs := fun a w e => by
    by_cases q : a = d
    · subst q
      have := g.hs _ _ e
      rw [hH] at this
      rw [upd_same]; exact this
    · rw [upd_ne q]; exact h.hs a w (by rw [upd_ne q]; exact e)
  nw := fun a e => by
    by_cases q : a = d
    · subst q; exact .inl (by rw [hF]; simp)
    · have := h.nw a e
      rw [upd_ne q] at this; exact this
  nf := fun a ob w dw e => by
    by_cases q : a = d
    · subst q
      rw [upd_same] at e
      cases e; cases di
    · rw [upd_ne q] at e
      have := h.nf a ob w dw e
      rw [upd_ne q] at this; exact this
theorem Sat.unlock {F0 H0 F H F' H' : Hp} {σ : St} {d : Addr} {u : HO} {od : Obj} (g : Grow F0 H0 F H) (n : NoLk H) (hF : F d = some u) (di : isD u) (hH : H d = some u) (A : Sat false F (upd H0 d (.frz od u)) Γ σ F' H') : Sat b F H0 Γ σ F' (upd H' d u) where
  gr := g.unlock hF di hH A.gr
  nl := fun _ a ob w dw e => by
    have := (g.unlock hF di hH A.gr).nf a ob w dw e
    exact n a ob w dw (g.hs _ _ this)
  len := A.len
  fz := A.fz
  mu := fun i ψ e => by
    obtain ⟨l, o, h1, h2, h3, h4, h5⟩ := A.mu i ψ e
    have ne : l ≠ d := fun z => by rw [z, upd_same] at h4; cases h4
    rw [upd_ne ne] at h4
    exact ⟨l, o, h1, by rw [upd_ne ne]; exact h2, h3, h4, h5⟩
  ne := A.ne
  ow := fun i χ e => by
    obtain ⟨l, o, R, w⟩ := A.ow i χ e
    refine ⟨l, o, R, w.to rfl (fun a v b1 b2 b3 _ => ?_) (Same.refl _) fun k ψ m e1 e2 => .inl ⟨ψ, e1, e2⟩⟩
    have ne : a ≠ d := fun z => by rw [z, upd_same] at b3; cases b3
    rw [upd_ne ne] at b3
    exact ⟨by rw [upd_ne ne]; exact b1, b2, b3⟩
  ow1 := A.ow1
theorem jb_forD {i : Nat} {x : Str} {iter : Expr} {body : List Stmt} {p px : Pos} {α : Type} {C : Cd α} {m : Option (List (Int × α))} {T : Type} {Γj : T → List En} {s0 : T} {cI : Cd Int} {mb : T → Int → Option (Out T R)} {f : T → Option (Out S R)}
    (hI : ∀ i F, cI.rep i (.int i) F) (hp : PassesOwn (model X.prog X.w) X.A X.env X.xe) (hcalm : X.calm = true) (hN : X.N.Nodup) (hi : X.N[i]? = some x) (hx : Loc X.env.scope x) (hit : JV X iter Γ (cD C) m) (h0 : EnvLe Γ (Γj s0))
    (hb : ∀ s a, JB X false body ((Γj s).set i (.fz (cI.at a))) Γj k (mb s a)) (hr : ∀ s, JB X true rest (Γj s) Γs k (f s)) (hs : ∀ x, foldedSetIterable iter X.env x = pure x := by intro _; rfl)
    (hf : X.fn x = true ∨ X.env.scope.names.lookup x = some .local := by first | exact .inl rfl | exact .inr rfl | assumption) :
    JB X true (.For (.Name x px) iter body [] p :: rest) Γ Γs k (m.bind fun kvs => (forO mb (kvs.map (·.1)) s0).bind (seqO f)) := by
  intro F0 H0 σ F H A o ho D P
  obtain ⟨kvs, hxs, ho⟩ := bind_some ho
  obtain ⟨o1, e1, e2⟩ := bind_some ho
  refine wS_of (pss_cons (ps_lock (ps_for hp hcalm (pi_keys pe_w) (pg_name hN hi hx hf) (pss_w (sts := body)) hs)) pss_w) ?_
  obtain ⟨v, ⟨d, ks, rfl, hF, pr⟩, run⟩ := hit true F0 H0 σ F H A kvs hxs
  have di : isD (.dK ks) := trivial
  have hH : H d = some (.dK ks) := A.gr.fx.un (A.nl rfl) hF
  refine ⟨d, .dK ks, hH, trivial, fun od => ?_⟩
  have A1 := A.lock (od := od) hF di hH
  have P1 : Post true F H0 Γs k o D := P.unbase A.gr
  have hl : kvs.length = ks.length := Paired.length pr
  refine run _ A1.gr.fx _ ⟨d, od, rfl, .inl ⟨ks, upd_same, ?_⟩⟩
  refine for_it walk_keys (fun n σ H => ∃ s F2, Sat false F (upd H0 d (.frz od (.dK ks))) (Γj s) σ F2 H ∧ forO mb ((kvs.map (·.1)).drop n) s = some o1) ⟨s0, F, A1.le h0, e1⟩ ?_ ?_ ?_
  · rintro n σ2 H2 hn ⟨s, F2, A2, _⟩
    exact A2.gr.hs _ _ upd_same
  · rintro n v σ2 H2 H3 hn ⟨s, F2, A2, e3⟩ y
    obtain ⟨rfl, key, w, hk, rfl⟩ := y
    obtain ⟨a, ha, ra, _⟩ := paired_ix pr hk
    have hd : (kvs.map (·.1)).drop n = a.1 :: (kvs.map (·.1)).drop (n + 1) := by
      have hm : (kvs.map (·.1))[n]? = some a.1 := by rw [List.getElem?_map, ha]; rfl
      obtain ⟨q1, q2⟩ := List.getElem?_eq_some_iff.mp hm
      rw [List.drop_eq_getElem_cons q1, q2]
    rw [hd] at e3
    obtain ⟨o2, e5, e6⟩ := bind_some (show (mb s a.1).bind (seqO (forO mb ((kvs.map (·.1)).drop (n + 1)))) = some o1 from e3)
    have rk : (cI.at a.1).p (kV key) F2 := by
      rw [show key = Sum.inl a.1 from ra]
      exact hI _ _
    refine hb s a.1 F _ _ F2 _ (A2.put rk) o2 e5 _ ?_
    cases o2 with
    | nx s' => exact fun σ' F' H' A' => ⟨s', F', A', e6⟩
    | rt r =>
      cases e6
      cases e2
      exact fun v F' H' g q => ⟨g.hs _ _ upd_same, P1 v F' _ (A.gr.unlock hF di hH g) (k.unl _ _ _ _ _ _ _ _ q)⟩
  · rintro σ2 H2 ⟨s, F2, A2, e3⟩
    rw [← hl, ← List.length_map (f := fun x : Int × α => x.1), List.drop_length] at e3
    cases e3
    exact ⟨A2.gr.hs _ _ upd_same, hr s F H0 σ2 F2 _ (Sat.unlock A.gr (A.nl rfl) hF di hH A2) o e2 D P1⟩
end

/- ## defs -/
def SpG {A R : Type} (b : Bool) (φs : A → List Fact) (m : A → Option R) (k : Rk R) : Sp := fun vs H Q _ =>
  ∃ x F r, FEx F H ∧ (b = true → NoLk H) ∧ Args (φs x) vs F ∧ m x = some r ∧ ∀ v F' H', Grow F H F' H' → k.p r v H F' H' → Q v H'
def outR {R : Type} : Out Unit R → Option R
  | .rt r => some r
  | .nx _ => none
def outU : Out Unit Unit → Option Unit := fun _ => some ()
def env0 (φs : List Fact) (n : Nat) : List En := φs.map En.fz ++ List.replicate n En.no
theorem sat0 {b : Bool} {H F : Hp} {N : List Str} {φs : List Fact} {vs : List V} (x : FEx F H) (n : b = true → NoLk H) (h : Args φs vs F) (hl : φs.length ≤ N.length) : Sat b F H (env0 φs (N.length - φs.length)) (L2.start N vs) F H := by
  have hlen : φs.length = vs.length := Paired.length h
  refine ⟨Grow.refl x, n, ?_, fun i φ e => ?_, fun i ψ e => ?_, fun i j ψ ψ' l e => ?_, fun i χ e => ?_, fun i j χ χ' e => ?_⟩
  · unfold L2.start env0
    simp only [List.length_append, List.length_map, List.length_replicate, hlen]
  · unfold env0 at e
    by_cases hi : i < φs.length
    · rw [List.getElem?_append_left (by simpa using hi), List.getElem?_map] at e
      obtain ⟨φ', h1, h2⟩ : ∃ φ', φs[i]? = some φ' ∧ En.fz φ' = En.fz φ := by
        cases q : φs[i]? with
        | none => rw [q] at e; cases e
        | some φ' => rw [q] at e; exact ⟨φ', rfl, Option.some.inj e⟩
      cases h2
      obtain ⟨v, h3, h4⟩ := paired_get h h1
      refine ⟨v, ?_, h4⟩
      unfold L2.start
      rw [List.getElem?_append_left (by simp; omega), List.getElem?_map, h3]; rfl
    · rw [List.getElem?_append_right (by simpa using hi), List.getElem?_replicate] at e
      split at e <;> cases e
  all_goals
    unfold env0 at e
    by_cases hi : i < φs.length
    · rw [List.getElem?_append_left (by simpa using hi), List.getElem?_map] at e
      cases q : φs[i]? with
      | none => rw [q] at e; cases e
      | some φ' => rw [q] at e; cases e
    · rw [List.getElem?_append_right (by simpa using hi), List.getElem?_replicate] at e
      split at e <;> cases e
section
variable {P : Program} {w : World} {K : PySem.W.Frag} {mg : Str → Option Value} {base : Heap}
theorem fn_g {x qual : Str} {st : Stmt} {f : Addr} {fd : FuncData} {N ps : List Str} {j : Nat} {A R : Type} {b : Bool} {φs : A → List Fact} {mo : A → Option (Out Unit R)} {k : Rk R} (Fu : Fun K x qual st f fd) (S : FnScope N ps (defScope st)) (hl : ∀ x, (φs x).length = ps.length)
    (body : ∀ (X : Cx) (x : A), (∃ cdv Ar outer s H E, X = (cxOf CX0 P w K mg base N qual (defScope st) f cdv Ar outer s H E).nox) → Room j X.A → JB X b (defBody st) (env0 (φs x) (N.length - ps.length)) (fun _ : Unit => List.replicate N.length .no) k (mo x)) :
    FnOk P w K mg base CX0 (j + 1) f fd ps (SpG b φs (fun x => (mo x).bind outR) k) := by
  refine Fu.ok S (fun vs H Q E h => ?_) (fun cdv Ar outer s H vs Q E hr h => ?_)
  · obtain ⟨x, F, r, _, _, h, _⟩ := h
    exact (Paired.length h).symm.trans (hl x)
  · obtain ⟨x, F, r, fx, n, h, hm, q⟩ := h
    obtain ⟨o, h1, h2⟩ := bind_some hm
    refine ⟨_, pss_w, ?_⟩
    have hpl : ps.length ≤ N.length := by have := congrArg List.length S.pre; rw [List.length_take] at this; omega
    have A := sat0 (N := N) fx n h (by rw [hl]; exact hpl)
    rw [hl x] at A
    refine body _ x ⟨cdv, Ar, outer, s, H, E, rfl⟩ hr F H _ F H A o h1 _ ?_
    cases o with
    | nx s => cases h2
    | rt r' => cases h2; exact q
/- a def that hands back None -/
theorem fn_gN {x qual : Str} {st : Stmt} {f : Addr} {fd : FuncData} {N ps : List Str} {j : Nat} {A : Type} {b : Bool} {φs : A → List Fact} {mo : A → Option (Out Unit Unit)} {k : Rk Unit} (hk : ∀ H F' H', k.p () .non H F' H') (Fu : Fun K x qual st f fd) (S : FnScope N ps (defScope st)) (hl : ∀ x, (φs x).length = ps.length)
    (body : ∀ (X : Cx) (x : A), (∃ cdv Ar outer s H E, X = (cxOf CX0 P w K mg base N qual (defScope st) f cdv Ar outer s H E).nox) → Room j X.A → JB X b (defBody st) (env0 (φs x) (N.length - ps.length)) (fun _ : Unit => List.replicate N.length .no) k (mo x)) :
    FnOk P w K mg base CX0 (j + 1) f fd ps (SpG b φs (fun x => (mo x).bind outU) k) := by
  refine Fu.ok S (fun vs H Q E h => ?_) (fun cdv Ar outer s H vs Q E hr h => ?_)
  · obtain ⟨x, F, r, _, _, h, _⟩ := h
    exact (Paired.length h).symm.trans (hl x)
  · obtain ⟨x, F, r, fx, n, h, hm, q⟩ := h
    obtain ⟨o, h1, h2⟩ := bind_some hm
    refine ⟨_, pss_w, ?_⟩
    have hpl : ps.length ≤ N.length := by have := congrArg List.length S.pre; rw [List.length_take] at this; omega
    have A := sat0 (N := N) fx n h (by rw [hl]; exact hpl)
    rw [hl x] at A
    refine body _ x ⟨cdv, Ar, outer, s, H, E, rfl⟩ hr F H _ F H A o h1 _ ?_
    cases o with
    | nx s => cases h2; exact fun σ' F' H' A' => q _ F' H' A'.gr (hk _ _ _)
    | rt r' => cases h2; exact q
end

/- ## calls -/
section
variable {X : Cx} {b : Bool} {Γ Γ' : List En}
theorem ja_nil : JA X b [] Γ (fun _ : Unit => []) (some ()) := by
  intro F0 H0 σ F H A a e Q q
  cases e
  exact wA_of pa_nil (q [] F H (Grow.refl A.gr.fx) .nil)
theorem ja_cons {e : Expr} {es : List Expr} {α A : Type} {C : Cd α} {φs : A → List Fact} {m1 : Option α} {m2 : Option A} (h1 : JE X b e Γ (fr C) m1) (h2 : JA X b es Γ φs m2) (hs : starEach (e :: es) X.env = (false, eval e X.env) :: starEach es X.env := by rfl) :
    JA X b (e :: es) Γ (fun x : α × A => C.at x.1 :: φs x.2) (bind2 m1 m2 fun a x => some (a, x)) := by
  intro F0 H0 σ F H A a ea Q q
  obtain ⟨a1, a2, e1, e2, e3⟩ := bind2_some ea
  cases e3
  refine wA_of (pa_cons pe_w pa_w hs) ?_
  refine h1 F0 H0 σ F H A a1 e1 _ fun v F1 H1 g1 r1 => ?_
  refine h2 F0 H0 σ F1 H1 (A.grow g1) a2 e2 _ fun vs F2 H2 g2 r2 => ?_
  exact q (v :: vs) F2 H2 (g1.trans g2) (.cons (C.mono _ _ _ _ g2.fs r1) r2)
theorem je_call {x : Str} {p pos : Pos} {e : Expr} {es : List Expr} {f : Addr} {fd : FuncData} {ps : List Str} {j : Nat} {A R : Type} {b' : Bool} {φs : A → List Fact} {m : A → Option R} {k : Rk R} {ma : Option A}
    (Fn : FnOk X.prog X.w X.K X.mg X.base CX0 j f fd ps (SpG b' φs m k)) (hr : Room j X.A) (hg : Gl X x) (hm : X.mg x = some (.ref f)) (hk : PySem.W.keepIn X.K (.ref f) = true) (hb : Binds X.K fd ps []) (ha : JA X b (e :: es) Γ φs ma) (hbb : b' = true → b = true)
    (hdb : (x == ("__debug__" : Str)) = false := by decide) (he : starEach (e :: es) X.env = (false, eval e X.env) :: starEach es X.env := by rfl) (hpl : (backTo pos (starEach es X.env)).any (·.1) = false := by rfl) :
    JE X b (.Call (.Name x p) (e :: es) [] pos) Γ k (ma.bind m) := by
  intro F0 H0 σ F H A r er Q q
  obtain ⟨a, e1, e2⟩ := bind_some er
  refine wE_of (pe_call (E := E0) (dvs := []) Fn hr hg hm hk hb .nil pass0 pa_w hdb he hpl) ?_
  refine ha F0 H0 σ F H A a e1 _ fun vs F1 H1 g1 r1 => ?_
  rw [List.append_nil]
  exact ⟨a, F1, r, g1.fx, fun z => (A.grow g1).nl (hbb z), r1, e2, fun v F2 H2 g2 r2 => q v F2 H2 (g1.trans g2) (k.back _ _ _ _ _ _ g1.hs r2)⟩
end
end Cw
/- CwSet: set(xs) of a list of whole numbers, as the set machine of HandS.Set has it. -/
namespace Cw
open PySem PySem.Spec L2
open PyProof.Rows hiding St
abbrev fso (w : World) : Obj := { cls := .type "set", dict := none, data := .set #[] 0 (.fresh 0 0 (!w.params.followText "set-order")) }
section
variable {P : Program} {w : World} {A : Around} {E : Value → Shared → Prop} {s : Shared}
set_option maxHeartbeats 8000000 in
theorem set_ints {p : Addr} {its : Array Value} (ks : List Int) {Q : Value → Shared → Prop} (calm : A.handled = none) (at_ : s.heap.IsList p its) (ints_ : PyProof.Rows.IntsAre its.toList ks) (room : ks.length + 1 < scanBound)
    (go : ∀ (h2 : Heap) (tk c : Nat), SetR w h2 s.heap.objs.size (fun j => decide (j ∈ ks)) c → c ≤ ks.length → (∀ b o, s.heap.get? b = some o → h2.get? b = some o) → Q (.ref s.heap.objs.size) { s with heap := h2, toks := tk }) :
    wpAny (model P w) A (call (.type "set") [.ref p]) Q E s := by
  have size_ : its.size = ks.length := by have q := PyProof.Rows.IntsAre.length ints_; simpa using q
  obtain ⟨_, _, mro_⟩ := F.called_set.mro
  have made_ := F.called_set.made
  have sub_ := F.called_set.sub
  refine wpAny_call (codeAny_of_tree ?_)
  show wpAny _ _ (callAny (.type "set") _) _ _ _
  refine wpAny_pure ⟨Code.quiet_builtin _ (by decide +kernel), codeAny_builtin F.entry_type_call ?_⟩
  rw [Around.under_plain (weight_type_call_type "set" [.ref p] []) rfl]
  have n1 := F.called_set.notType
  have n2 := F.called_set.canCreate
  have n3 := F.typeCall_set_1 (.ref p)
  repeat (any_goals (first | assumption | wp_step))
  refine codeAny_mono (code_set_led1 (.ref p) (E := E) (Q₁ := fun v t => v = .ref s.heap.objs.size ∧ t = { s with heap := s.heap.push (fso w) }) ⟨rfl, rfl⟩) fun r t hr => ?_
  cases r with
  | error e => exact hr
  | ok fl =>
    cases fl with
    | ret ob =>
      obtain ⟨rfl, rfl⟩ := hr
      have gS : (s.heap.push (fso w)).get? s.heap.objs.size = some (fso w) := Heap.get?_push_size _ rfl
      have tS : Shared.TypeIs { s with heap := s.heap.push (fso w) } (.ref s.heap.objs.size) "set" := ⟨_, gS, rfl⟩
      have i1 := F.called_set.init.lookup
      have i2 := F.called_set.init.bind (.ref s.heap.objs.size)
      repeat (any_goals (first | assumption | wp_step))
      refine codeAny_mono (codeAny_call_builtin (R := wants (fun r t => r = .none ∧ ∃ h2 tk c, t = { s with heap := h2, toks := tk } ∧ SetR w h2 s.heap.objs.size (fun j => decide (j ∈ ks)) c ∧ c ≤ ks.length ∧
          (∀ b o, s.heap.get? b = some o → h2.get? b = some o)) E) F.called_set.init.plain F.entry_set_init (check_set_init_1 tS ?_)) fun r2 t2 hr2 => ?_
      · obtain ⟨⟨oc, od, odat, osl⟩, hol, hcl, nl, hdl⟩ := at_
        simp only at hcl hdl
        subst hcl; subst hdl
        have gp : (s.heap.push (fso w)).get? p = some { cls := .type "list", dict := od, data := .seq its nl, slots := osl } := Heap.get?_push_of_some _ hol
        have y1 := F.sub_list_set
        have y2 := F.sub_list_frozenset
        have y3 : (Value.type "list" == Value.type "dict") = false := by decide
        have lp : (s.heap.push (fso w)).IsList p its := ⟨_, gp, rfl, nl, rfl⟩
        unfold Builtin.«set.__init__» noKeywords Builtin.Frozenset.updateFrom
        generalize hPI : pyIter = PI
        wp_walk
        subst hPI
        refine wpAny_pyIter_list lp ?_
        refine wpAny_bind (wpAny_runValue ?_)
        have pS : p < s.heap.objs.size := Heap.lt_size hol
        have calm3 : A.in1.in1.in1.handled = none := by simp [calm]
        have neI : p ≠ (s.heap.push (fso w)).objs.size := by rw [Heap.size_push]; exact Nat.ne_of_lt (Nat.lt_succ_of_lt pS)
        have nin : s.heap.objs.size ∉ [(s.heap.push (fso w)).objs.size, p] := by
          rw [Heap.size_push]
          simp only [List.mem_cons, List.not_mem_nil, or_false, not_or]
          exact ⟨Nat.ne_of_lt (Nat.lt_succ_self _), Nat.ne_of_gt pS⟩
        have val_ : ∀ (i : Nat) (v : Value), its[i]? = some v → ∃ k t, ks[i]? = some k ∧ v = .int k t := fun i v hv => by
          have hi : i < ks.length := by rw [← size_]; exact (Array.getElem?_eq_some_iff.mp hv).1
          obtain ⟨t, e⟩ := PyProof.Rows.IntsAre.int_at ints_ i v (by rw [Array.getElem?_toList]; exact hv)
          exact ⟨ks[i], t, List.getElem?_eq_getElem hi, by rw [e, List.getD_eq_getElem?_getD, List.getElem?_eq_getElem hi] <;> rfl⟩
        refine set_update_ints ((Walks.list calm3 _ p neI its).toS) s.heap.objs.size nin ks size_ room val_ (its.size - 0) 0 _ (by omega) (Nat.zero_le _) ⟨⟨_, Heap.get?_push_size _ rfl, rfl, rfl⟩, (lp.push _)⟩ ?g0 ?g1
        case g0 => exact ⟨0, Nat.le_refl 0, setR_new_at (Heap.get?_push_of_some _ gS)⟩
        case g1 =>
          rintro ⟨h2, g2, d2, tk2, os2⟩ c2 hm hc2 hS2
          obtain rfl : g2 = s.gens := hm.gens
          obtain rfl : d2 = s.drawn := hm.drawn
          obtain rfl : os2 = s.os := hm.os
          show wpAny _ _ _ _ _ _
          refine wpAny_pure ?_
          show wpAny _ _ (ret Value.none) _ _ _
          rw [size_] at hc2
          refine wpAny_pure ⟨rfl, h2, tk2, c2, rfl, hS2, hc2, fun b o e => ?_⟩
          have b0 : b < s.heap.objs.size := Heap.lt_size e
          refine hm.heap b o ?_ (Heap.get?_push_of_some _ (Heap.get?_push_of_some _ e))
          simp only [List.mem_cons, List.not_mem_nil, or_false, not_or]
          rw [Heap.size_push]
          exact ⟨Nat.ne_of_lt b0, Nat.ne_of_lt (Nat.lt_succ_of_lt b0)⟩
      · cases r2 with
        | error e => exact hr2
        | ok fl2 =>
          cases fl2 with
          | ret r =>
            obtain ⟨rfl, h2, tk2, c2, rfl, hS2, hc2, hk2⟩ := hr2
            repeat (any_goals (first | assumption | wp_step))
            exact go _ _ _ hS2 hc2 hk2
          | _ => exact hr2.elim
    | _ => exact hr.elim
end
section
variable {X : Cx}
/- set(xs) as a value of the layer -/
def rSetI (K : PySem.W.Frag) (w : World) : List V → Hp → VK → Prop := fun vs H Q => ∃ (a : Addr) (ks : List Int), vs = [V.ref a] ∧ SqL K H a (ks.map V.int) ∧ ks.length ≤ 1000 ∧
  ∀ (p : Addr) (c : Nat), H p = none → c ≤ ks.length → Q (.ref p) (upd H p (SetO w p (fun j => decide (j ∈ ks)) c))
theorem cr_setI (hc : X.calm = true) : CallR X (.type "set") (rSetI X.K X.w) := by
  intro pins s σ H vs us Q I r h
  obtain ⟨a, ks, rfl, hq, hl, q⟩ := h
  obtain ⟨its, rv, pl, hz⟩ := I.list hq
  rw [Vals.ref1 r]
  refine set_ints ks (I.ok.hd hc) pl.isList (by simpa using rv.ints) (by unfold scanBound; omega) fun h2 tk c R hc2 k => ?_
  have fr : H s.heap.objs.size = none := I.hok.fresh (Nat.le_refl _)
  exact ⟨.ref s.heap.objs.size, _, I.laid (t' := tk) k (Nat.le_refl _) (setO_new R), rfl, q _ c fr hc2⟩
end
end Cw
/- CwExp: codecs, operators, subscripts, built-ins. -/
namespace Cw
open PySem PySem.Spec L2
open PyProof.Rows hiding St

/- ## codecs -/
def cI : Cd Int := ⟨fun i v _ => v = .int i, fun _ _ _ _ _ h => h⟩
def cB : Cd Bool := ⟨fun i v _ => v = .bl i, fun _ _ _ _ _ h => h⟩
def cS : Cd Str := ⟨fun i v _ => v = .str i, fun _ _ _ _ _ h => h⟩
def cN : Cd Unit := ⟨fun _ v _ => v = .non, fun _ _ _ _ _ h => h⟩
def vO : Option Int → V
  | none => .non
  | some i => .int i
def cO : Cd (Option Int) := ⟨fun i v _ => v = vO i, fun _ _ _ _ _ h => h⟩
def cL {α : Type} (C : Cd α) : Cd (List α) where
  rep := fun xs v F => ∃ p vs, v = .ref p ∧ F p = some (.lst vs) ∧ Paired (fun a v => C.rep a v F) xs vs
  mono := fun _ _ _ _ s ⟨p, vs, h1, h2, h3⟩ => ⟨p, vs, h1, s _ _ h2, paired_mono h3 fun _ _ q => C.mono _ _ _ _ s q⟩
def cT {α : Type} (C : Cd α) : Cd (List α) where
  rep := fun xs v F => ∃ p vs, v = .ref p ∧ F p = some (.tup vs) ∧ Paired (fun a v => C.rep a v F) xs vs
  mono := fun _ _ _ _ s ⟨p, vs, h1, h2, h3⟩ => ⟨p, vs, h1, s _ _ h2, paired_mono h3 fun _ _ q => C.mono _ _ _ _ s q⟩
def c2 {α β : Type} (A : Cd α) (B : Cd β) : Cd (α × β) where
  rep := fun x v F => ∃ p u w, v = .ref p ∧ F p = some (.tup [u, w]) ∧ A.rep x.1 u F ∧ B.rep x.2 w F
  mono := fun _ _ _ _ s ⟨p, u, w, h1, h2, h3, h4⟩ => ⟨p, u, w, h1, s _ _ h2, A.mono _ _ _ _ s h3, B.mono _ _ _ _ s h4⟩
def c3 {α β γ : Type} (A : Cd α) (B : Cd β) (C : Cd γ) : Cd (α × β × γ) where
  rep := fun x v F => ∃ p u w z, v = .ref p ∧ F p = some (.tup [u, w, z]) ∧ A.rep x.1 u F ∧ B.rep x.2.1 w F ∧ C.rep x.2.2 z F
  mono := fun _ _ _ _ s ⟨p, u, w, z, h1, h2, h3, h4, h5⟩ => ⟨p, u, w, z, h1, s _ _ h2, A.mono _ _ _ _ s h3, B.mono _ _ _ _ s h4, C.mono _ _ _ _ s h5⟩
/- the script: read alone -/
def cScr (K : PySem.W.Frag) : Cd (List Int) where
  rep := fun ns v F => ∃ p, v = .ref p ∧ SqL K F p (ns.map V.int)
  mono := fun ns v F F' s ⟨p, h1, h2⟩ => ⟨p, h1, s.seq h2⟩
abbrev Pl := Int × Int × List Int
abbrev cPl : Cd Pl := c3 cI cI (cT cI)
abbrev cGm : Cd (List Pl) := cT cPl
def mL {α : Type} (C : Cd α) (xs : List α) : MFact where
  p := fun o F => ∃ vs, o = .lst vs ∧ Paired (fun a v => C.rep a v F) xs vs
  mono := fun _ _ _ s ⟨vs, h1, h3⟩ => ⟨vs, h1, paired_mono h3 fun _ _ q => C.mono _ _ _ _ s q⟩
  nofrz := fun o F ⟨vs, h, _⟩ z => by subst h; exact z
def mD {α : Type} (C : Cd α) (kvs : List (Int × α)) : MFact where
  p := fun o F => ∃ ks, o = .dK ks ∧ Paired (fun (p : Int × α) (q : Key × V) => q.1 = Sum.inl p.1 ∧ C.rep p.2 q.2 F) kvs ks
  mono := fun _ _ _ s ⟨vs, h1, h3⟩ => ⟨vs, h1, paired_mono h3 fun _ _ q => ⟨q.1, C.mono _ _ _ _ s q.2⟩⟩
  nofrz := fun o F ⟨vs, h, _⟩ z => by subst h; exact z
theorem cI_flat : cI.Flat := fun _ _ _ _ h => h
theorem cB_flat : cB.Flat := fun _ _ _ _ h => h
theorem cS_flat : cS.Flat := fun _ _ _ _ h => h
theorem cO_flat : cO.Flat := fun _ _ _ _ h => h
theorem cN_flat : cN.Flat := fun _ _ _ _ h => h
theorem mL_flat {α : Type} {C : Cd α} (f : C.Flat) : ∀ a o F F', (mL C a).p o F → (mL C a).p o F' := fun _ _ F F' ⟨vs, h1, h2⟩ => ⟨vs, h1, paired_mono h2 fun _ _ q => f _ _ _ _ q⟩
theorem mD_flat {α : Type} {C : Cd α} (f : C.Flat) : ∀ a o F F', (mD C a).p o F → (mD C a).p o F' := fun _ _ F F' ⟨vs, h1, h2⟩ => ⟨vs, h1, paired_mono h2 fun _ _ q => ⟨q.1, f _ _ _ _ q.2⟩⟩
/- from one's own to frozen -/
theorem qL {α : Type} {C : Cd α} {xs : List α} : ∀ l o F, F l = none → (mL C xs).p o F → ((cL C).at xs).p (.ref l) (upd F l o) := fun l o F n ⟨vs, h1, h2⟩ => by
  subst h1
  exact ⟨l, vs, rfl, upd_same, paired_mono h2 fun _ _ q => C.mono _ _ _ _ (sameNew n) q⟩
theorem qD {α : Type} {C : Cd α} {xs : List (Int × α)} : ∀ l o F, F l = none → (mD C xs).p o F → ((cD C).at xs).p (.ref l) (upd F l o) := fun l o F n ⟨vs, h1, h2⟩ => by
  subst h1
  exact ⟨l, vs, rfl, upd_same, paired_mono h2 fun _ _ q => ⟨q.1, C.mono _ _ _ _ (sameNew n) q.2⟩⟩

section
variable {X : Cx} {b : Bool} {Γ : List En}
/- ## results -/
theorem je_fz {e : Expr} {α : Type} {M : α → MFact} {C : Cd α} {m : Option α} (h : JE X b e Γ (nw M) m) (hq : ∀ a l o F, F l = none → (M a).p o F → (C.at a).p (.ref l) (upd F l o)) : JE X b e Γ (fr C) m := by
  intro F0 H0 σ F H A a ea Q q
  refine h F0 H0 σ F H A a ea Q fun v F' H' g r => ?_
  obtain ⟨l, o, rfl, h1, h2, h3, h4⟩ := r
  exact q _ _ H' (g.frz h1 h3 h2) (hq a l o F' h3 h4)
theorem je_fzL {e : Expr} {α : Type} {C : Cd α} {m : Option (List α)} (h : JE X b e Γ (nw (mL C)) m) : JE X b e Γ (fr (cL C)) m := je_fz h fun _ => qL
theorem je_fzD {e : Expr} {α : Type} {C : Cd α} {m : Option (List (Int × α))} (h : JE X b e Γ (nw (mD C)) m) : JE X b e Γ (fr (cD C)) m := je_fz h fun _ => qD
theorem je_eq {e : Expr} {α : Type} {k : Rk α} {m m' : Option α} (h : JE X b e Γ k m) (q : m = m') : JE X b e Γ k m' := q ▸ h
/- one's own object in slot i is looked at, the result leans on nothing -/
theorem je_peek (i : Nat) {e : Expr} {α : Type} {k : Rk α} {m : Option α} {ψ : MFact} {φ : Fact} (hg : Γ[i]? = some (.mu ψ)) (hq : ∀ l o F, F l = none → ψ.p o F → φ.p (.ref l) (upd F l o)) (hk : k.Indep) (h : JE X b e (Γ.set i (.fz φ)) k m) : JE X b e Γ k m := by
  intro F0 H0 σ F H A a ea Q q
  obtain ⟨l, o, _, hl, hf, _, A'⟩ := A.frz hg hq
  refine h F0 H0 σ _ H A' a ea Q fun v F' H' g r => ?_
  refine q v F H' ⟨Same.refl _, A.gr.fx.up g.hs, g.hs, fun _ h => .inl h, g.nf⟩ (hk _ _ _ _ _ _ ((sameNew hf).trans g.fs) r)
theorem jt_peek (i : Nat) {e : Expr} {m : Option Bool} {ψ : MFact} {φ : Fact} (hg : Γ[i]? = some (.mu ψ)) (hq : ∀ l o F, F l = none → ψ.p o F → φ.p (.ref l) (upd F l o)) (h : JT X b e (Γ.set i (.fz φ)) m) : JT X b e Γ m := by
  intro F0 H0 σ F H A a ea Q q
  obtain ⟨l, o, _, hl, hf, _, A'⟩ := A.frz hg hq
  refine h F0 H0 σ _ H A' a ea Q fun F' H' g => ?_
  exact q F H' ⟨Same.refl _, A.gr.fx.up g.hs, g.hs, fun _ h => .inl h, g.nf⟩
/- ## constants, globals -/
theorem je_of {e : Expr} {t : TE} {α : Type} {C : Cd α} {a : α} {v : V} (h : PE X e t) (ht : ∀ σ H (Q : VK), Q v H → t σ H Q) (r : ∀ F, C.rep a v F) : JE X b e Γ (fr C) (some a) := by
  intro F0 H0 σ F H A a' ea Q q
  cases ea
  exact wE_of h (ht σ H Q (q v F H (Grow.refl A.gr.fx) (r F)))
theorem je_int {i j pos} : JE X b (.Constant (.int i) j pos) Γ (fr cI) (some i) := je_of pe_int (fun _ _ _ q => q) fun _ => rfl
theorem je_str {x j pos} : JE X b (.Constant (.str x) j pos) Γ (fr cS) (some x) := je_of pe_str (fun _ _ _ q => q) fun _ => rfl
theorem je_bl {x j pos} : JE X b (.Constant (.bool x) j pos) Γ (fr cB) (some x) := je_of pe_bl (fun _ _ _ q => q) fun _ => rfl
theorem je_non {j pos} : JE X b (.Constant .none j pos) Γ (fr cN) (some ()) := je_of pe_non (fun _ _ _ q => q) fun _ => rfl
theorem je_nonO {j pos} : JE X b (.Constant .none j pos) Γ (fr cO) (some none) := je_of pe_non (fun _ _ _ q => q) fun _ => rfl
theorem je_glob {x : Str} {v : V} {u : Value} {pos : Pos} {α : Type} {C : Cd α} {a : α} (hg : Gl X x) (hm : X.mg x = some u) (r : RelV v u) (ra : ∀ F, C.rep a v F) (hd : (x == ("__debug__" : Str)) = false := by decide) : JE X b (.Name x pos) Γ (fr C) (some a) := je_of (pe_glob hg hm r hd) (fun _ _ _ q => q) ra
/- an int where None might be -/
def pSome (i : Int) : Option (Option Int) := some (some i)
theorem je_toO {e : Expr} {m : Option Int} (h : JE X b e Γ (fr cI) m) : JE X b e Γ (fr cO) (m.bind pSome) := by
  intro F0 H0 σ F H A a ea Q q
  obtain ⟨i, h1, h2⟩ := bind_some ea
  cases h2
  exact h F0 H0 σ F H A i h1 Q fun v F' H' g r => q v F' H' g r
def pGet (o : Option Int) : Option Int := o
theorem je_ofO {e : Expr} {m : Option (Option Int)} (h : JE X b e Γ (fr cO) m) : JE X b e Γ (fr cI) (m.bind pGet) := by
  intro F0 H0 σ F H A a ea Q q
  obtain ⟨i, h1, h2⟩ := bind_some ea
  cases i with
  | none => cases h2
  | some i =>
    cases h2
    exact h F0 H0 σ F H A _ h1 Q fun v F' H' g r => q v F' H' g r
/- ## two operands -/
def R2Ok (r : R2) {α β γ : Type} (Ca : Cd α) (Cb : Cd β) (k : Rk γ) (f : α → β → Option γ) : Prop :=
  ∀ a c vx vy F H, FEx F H → Ca.rep a vx F → Cb.rep c vy F → ∀ z, f a c = some z → ∀ Q : VK, (∀ v F' H', Grow F H F' H' → k.p z v H F' H' → Q v H') → r vx vy H Q
theorem je_two {a c : Expr} {r : R2} {α β γ : Type} {Ca : Cd α} {Cb : Cd β} {k : Rk γ} {f : α → β → Option γ} {m1 : Option α} {m2 : Option β} {F0 H0 F H : Hp} {σ : St} (A : Sat b F0 H0 Γ σ F H) (h : R2Ok r Ca Cb k f) (ha : JE X b a Γ (fr Ca) m1) (hc : JE X b c Γ (fr Cb) m2)
    {z : γ} (ez : bind2 m1 m2 f = some z) {Q : VK} (q : ∀ v F' H', Grow F H F' H' → k.p z v H F' H' → Q v H') : tOp r (wE X a) (wE X c) σ H Q := by
  obtain ⟨x, y, e1, e2, e3⟩ := bind2_some ez
  refine ha F0 H0 σ F H A x e1 _ fun v F1 H1 g1 r1 => ?_
  refine hc F0 H0 σ F1 H1 (A.grow g1) y e2 _ fun w F2 H2 g2 r2 => ?_
  exact h x y v w F2 H2 g2.fx (Ca.mono _ _ _ _ g2.fs r1) r2 z e3 Q fun v3 F3 H3 g3 r3 => q v3 F3 H3 ((g1.trans g2).trans g3) (k.back _ _ _ _ _ _ (g1.trans g2).hs r3)
theorem je_op {a c : Expr} {pos : Pos} {op : Operator} {r : R2} {α β γ : Type} {Ca : Cd α} {Cb : Cd β} {k : Rk γ} {f : α → β → Option γ} {m1 : Option α} {m2 : Option β} (ho : OpR X (binaryOp op) r) (h : R2Ok r Ca Cb k f) (ha : JE X b a Γ (fr Ca) m1) (hc : JE X b c Γ (fr Cb) m2) :
    JE X b (.BinOp a op c pos) Γ k (bind2 m1 m2 f) := fun F0 H0 σ F H A z ez Q q => wE_of (pe_op ho pe_w pe_w) (je_two A h ha hc ez q)
theorem je_cmp {a c : Expr} {pos : Pos} {op : CmpOp} {r : R2} {α β γ : Type} {Ca : Cd α} {Cb : Cd β} {k : Rk γ} {f : α → β → Option γ} {m1 : Option α} {m2 : Option β} (ho : OpR X (compareOp op) r) (h : R2Ok r Ca Cb k f) (ha : JE X b a Γ (fr Ca) m1) (hc : JE X b c Γ (fr Cb) m2) (hm : behindInMarks op c = false) :
    JE X b (.Compare a [op] [c] pos) Γ k (bind2 m1 m2 f) := fun F0 H0 σ F H A z ez Q q => wE_of (pe_cmpR ho pe_w pe_w hm) (je_two A h ha hc ez q)
theorem jt_cmp {a c : Expr} {pos : Pos} {op : CmpOp} {r : R2} {α β : Type} {Ca : Cd α} {Cb : Cd β} {f : α → β → Option Bool} {m1 : Option α} {m2 : Option β} (ho : OpR X (compareOp op) r) (h : R2Ok r Ca Cb (fr cB) f) (ha : JE X b a Γ (fr Ca) m1) (hc : JE X b c Γ (fr Cb) m2) (hm : behindInMarks op c = false) :
    JT X b (.Compare a [op] [c] pos) Γ (bind2 m1 m2 f) := fun F0 H0 σ F H A z ez Q q => wT_of (pt_cmpR ho pe_w pe_w hm) (je_two A h ha hc ez fun v F' H' g r => ⟨z, r, q F' H' g⟩)
theorem je_ix {a c : Expr} {pos : Pos} {r : R2} {α β γ : Type} {Ca : Cd α} {Cb : Cd β} {k : Rk γ} {f : α → β → Option γ} {m1 : Option α} {m2 : Option β} (ho : IxR X r) (h : R2Ok r Ca Cb k f) (ha : JE X b a Γ (fr Ca) m1) (hc : JE X b c Γ (fr Cb) m2) (hs : PlainIx c) :
    JE X b (.Subscript a c pos) Γ k (bind2 m1 m2 f) := fun F0 H0 σ F H A z ez Q q => wE_of (pe_ix ho pe_w pe_w hs) (je_two A h ha hc ez q)
theorem r2_I0 {g : Int → Int → V} {γ : Type} {C : Cd γ} {f : Int → Int → γ} (h : ∀ i j F, C.rep (f i j) (g i j) F) : R2Ok (rI0 g) cI cI (fr C) (fun i j => some (f i j)) := by
  intro i j vx vy F H fx h1 h2 z ez Q q
  cases h1; cases h2; cases ez
  exact ⟨i, j, rfl, rfl, q _ F H (Grow.refl fx) (h i j F)⟩
def pAdd (i j : Int) : Option Int := some (i + j)
def pSub (i j : Int) : Option Int := some (i - j)
def pMul (i j : Int) : Option Int := if (-18446744073709551616 < i ∧ i < 18446744073709551616) ∨ (-18446744073709551616 < j ∧ j < 18446744073709551616) then some (i * j) else none
def pDiv (i j : Int) : Option Int := if 0 < j ∧ j < 1073741824 then some (i / j) else none
def pMod (i j : Int) : Option Int := if 0 < j then some (i % j) else none
def pPow (i j : Int) : Option Int := if 0 ≤ j ∧ j ≤ 1000000 ∧ i.natAbs < 18446744073709551616 then some (i ^ j.toNat) else none
def pLt (i j : Int) : Option Bool := some (decide (i < j))
def pLe (i j : Int) : Option Bool := some (decide (i ≤ j))
def pGt (i j : Int) : Option Bool := some (decide (j < i))
def pGe (i j : Int) : Option Bool := some (decide (j ≤ i))
def pEq (i j : Int) : Option Bool := some (decide (i = j))
def pNe (i j : Int) : Option Bool := some (!decide (i = j))
theorem r2_add : R2Ok (rI0 fun i j => .int (i + j)) cI cI (fr cI) pAdd := r2_I0 fun _ _ _ => rfl
theorem r2_sub : R2Ok (rI0 fun i j => .int (i - j)) cI cI (fr cI) pSub := r2_I0 fun _ _ _ => rfl
theorem r2_lt : R2Ok (rI0 fun i j => .bl (decide (i < j))) cI cI (fr cB) pLt := r2_I0 fun _ _ _ => rfl
theorem r2_le : R2Ok (rI0 fun i j => .bl (decide (i ≤ j))) cI cI (fr cB) pLe := r2_I0 fun _ _ _ => rfl
theorem r2_gt : R2Ok (rI0 fun i j => .bl (decide (j < i))) cI cI (fr cB) pGt := r2_I0 fun _ _ _ => rfl
theorem r2_ge : R2Ok (rI0 fun i j => .bl (decide (j ≤ i))) cI cI (fr cB) pGe := r2_I0 fun _ _ _ => rfl
theorem r2_I {Cc Cd' : Int → Int → Prop} [∀ i j, Decidable (Cd' i j)] (hcd : ∀ i j, Cd' i j → Cc i j) {g : Int → Int → V} {γ : Type} {C : Cd γ} {f : Int → Int → γ} (h : ∀ i j F, C.rep (f i j) (g i j) F) : R2Ok (rI Cc g) cI cI (fr C) (fun i j => if Cd' i j then some (f i j) else none) := by
  intro i j vx vy F H fx h1 h2 z ez Q q
  cases h1; cases h2
  have ez : (if Cd' i j then some (f i j) else none) = some z := ez
  by_cases c : Cd' i j
  · rw [if_pos c] at ez
    cases ez
    exact ⟨i, j, rfl, rfl, hcd i j c, q _ F H (Grow.refl fx) (h i j F)⟩
  · rw [if_neg c] at ez; cases ez
theorem r2_mul : R2Ok (rI CMul fun i j => .int (i * j)) cI cI (fr cI) pMul := r2_I (Cd' := fun i j => (-18446744073709551616 < i ∧ i < 18446744073709551616) ∨ (-18446744073709551616 < j ∧ j < 18446744073709551616)) (fun i j h => by
  unfold CMul
  rcases h with h | h
  · left; omega
  · right; omega) fun _ _ _ => rfl
theorem r2_div : R2Ok (rI CDiv fun i j => .int (i / j)) cI cI (fr cI) pDiv := r2_I (Cd' := fun _ j => 0 < j ∧ j < 1073741824) (fun _ _ h => h) fun _ _ _ => rfl
theorem r2_mod : R2Ok (rI (fun _ j => 0 < j) fun i j => .int (i % j)) cI cI (fr cI) pMod := r2_I (Cd' := fun _ j => 0 < j) (fun _ _ h => h) fun _ _ _ => rfl
theorem r2_pow : R2Ok (rI CPow fun i j => .int (i ^ j.toNat)) cI cI (fr cI) pPow := r2_I (Cd' := fun i j => 0 ≤ j ∧ j ≤ 1000000 ∧ i.natAbs < 18446744073709551616) (fun i j h => ⟨h.1, h.2.1, by omega⟩) fun _ _ _ => rfl
theorem r2_eq : R2Ok rEq cI cI (fr cB) pEq := by
  intro i j vx vy F H fx h1 h2 z ez Q q
  cases h1; cases h2; cases ez
  exact ⟨rfl, q _ F H (Grow.refl fx) (by show V.bl _ = V.bl _; congr 1; simp)⟩
theorem r2_ne : R2Ok rNe cI cI (fr cB) pNe := by
  intro i j vx vy F H fx h1 h2 z ez Q q
  cases h1; cases h2; cases ez
  exact ⟨rfl, q _ F H (Grow.refl fx) (by show V.bl _ = V.bl _; congr 1; simp)⟩
def pEqS (i j : Str) : Option Bool := some (decide (i = j))
def pNeS (i j : Str) : Option Bool := some (!decide (i = j))
theorem r2_eqS : R2Ok rEq cS cS (fr cB) pEqS := by
  intro i j vx vy F H fx h1 h2 z ez Q q
  cases h1; cases h2; cases ez
  exact ⟨rfl, q _ F H (Grow.refl fx) (by show V.bl _ = V.bl _; congr 1; simp)⟩
theorem r2_neS : R2Ok rNe cS cS (fr cB) pNeS := by
  intro i j vx vy F H fx h1 h2 z ez Q q
  cases h1; cases h2; cases ez
  exact ⟨rfl, q _ F H (Grow.refl fx) (by show V.bl _ = V.bl _; congr 1; simp)⟩
def pEqB (i j : Bool) : Option Bool := some (decide (i = j))
def pNeB (i j : Bool) : Option Bool := some (!decide (i = j))
theorem r2_eqB : R2Ok rEq cB cB (fr cB) pEqB := by
  intro i j vx vy F H fx h1 h2 z ez Q q
  cases h1; cases h2; cases ez
  exact ⟨rfl, q _ F H (Grow.refl fx) (by show V.bl _ = V.bl _; congr 1; simp)⟩
theorem r2_neB : R2Ok rNe cB cB (fr cB) pNeB := by
  intro i j vx vy F H fx h1 h2 z ez Q q
  cases h1; cases h2; cases ez
  exact ⟨rfl, q _ F H (Grow.refl fx) (by show V.bl _ = V.bl _; congr 1; simp)⟩
def pNeg (i : Int) : Option Int := some (-i)
theorem je_neg {a : Expr} {pos : Pos} {m : Option Int} (h : JE X b a Γ (fr cI) m) : JE X b (.UnaryOp .USub a pos) Γ (fr cI) (m.bind pNeg) := by
  intro F0 H0 σ F H A z ez Q q
  obtain ⟨i, e1, e2⟩ := bind_some ez
  cases e2
  refine wE_of (pe_un un_neg pe_w) ?_
  exact h F0 H0 σ F H A i e1 _ fun v F' H' g r => ⟨i, r, q _ F' H' g rfl⟩
/- x is None, x is not None -/
def pIsN (o : Option Int) : Option Bool := some (decide (o = none))
def pNotN (o : Option Int) : Option Bool := some (!decide (o = none))
theorem jt_notN {a : Expr} {pos p2 : Pos} {j} {m : Option (Option Int)} (h : JE X b a Γ (fr cO) m) : JT X b (.Compare a [.IsNot] [.Constant .none j p2] pos) Γ (m.bind pNotN) := by
  intro F0 H0 σ F H A z ez Q q
  obtain ⟨i, e1, e2⟩ := bind_some ez
  cases e2
  refine wT_of (pt_cmp (pc_notN pe_w)) ?_
  refine h F0 H0 σ F H A i e1 _ fun v F' H' g r => ⟨_, ?_, q F' H' g⟩
  have r' : v = vO i := r
  subst r'
  cases i <;> rfl
/- ## tests -/
theorem jt_val {e : Expr} {m : Option Bool} (h : JE X b e Γ (fr cB) m) (he : ∀ whole, isTrue e X.env whole = (do let v ← whole; standAt e.pos; holding [v] (truthy v)) := by intro _; rfl) : JT X b e Γ m := fun F0 H0 σ F H A z ez Q q =>
  wT_of (pt_val pe_w he) (h F0 H0 σ F H A z ez _ fun v F' H' g r => ⟨z, r, q F' H' g⟩)
def oAnd (m n : Option Bool) : Option Bool := m.bind fun x => if x = true then n else some false
def oOr (m n : Option Bool) : Option Bool := m.bind fun x => if x = true then some true else n
def oNot (m : Option Bool) : Option Bool := m.bind fun x => some (!x)
def JW (X : Cx) (b : Bool) (e : Expr) (Γ : List En) (m : Option Bool) : Prop :=
  ∀ F0 H0 σ F H, Sat b F0 H0 Γ σ F H → ∀ a, m = some a → ∀ Q : Bool → Hp → Prop, (∀ F' H', Grow F H F' H' → Q a H') → ∀ whole pins s, Inv X pins σ H s → wpAny (model X.prog X.w) X.A (isTrue e X.env whole) (TP X pins σ Q) X.xe s
def wW (X : Cx) (e : Expr) : TT := fun σ H Q => ∀ whole pins s, Inv X pins σ H s → wpAny (model X.prog X.w) X.A (isTrue e X.env whole) (TP X pins σ Q) X.xe s
theorem pw_w {e : Expr} : PW X e (wW X e) := ⟨fun whole pins s _ _ _ I h => h whole pins s I⟩
theorem jw_of {e : Expr} {t : TT} (h : PW X e t) {σ : St} {H : Hp} {Q : Bool → Hp → Prop} (q : t σ H Q) : ∀ whole pins s, Inv X pins σ H s → wpAny (model X.prog X.w) X.A (isTrue e X.env whole) (TP X pins σ Q) X.xe s := fun whole pins s I => h.run whole pins s σ H Q I q
theorem JW.jt {e : Expr} {m : Option Bool} (h : JW X b e Γ m) : JT X b e Γ m := fun F0 H0 σ F H A z ez Q q => wT_of pw_w.pt (h F0 H0 σ F H A z ez Q q)
theorem jw_and1 {a : Expr} {pos : Pos} {m : Option Bool} (h : JT X b a Γ m) : JW X b (.BoolOp .And [a] pos) Γ m := fun F0 H0 σ F H A z ez Q q => jw_of (pw_and1 pt_w) (h F0 H0 σ F H A z ez Q q)
theorem jw_or1 {a : Expr} {pos : Pos} {m : Option Bool} (h : JT X b a Γ m) : JW X b (.BoolOp .Or [a] pos) Γ m := fun F0 H0 σ F H A z ez Q q => jw_of (pw_or1 pt_w) (h F0 H0 σ F H A z ez Q q)
theorem jw_and {a c : Expr} {r : List Expr} {pos : Pos} {m n : Option Bool} (h : JT X b a Γ m) (h2 : JW X b (.BoolOp .And (c :: r) pos) Γ n) : JW X b (.BoolOp .And (a :: c :: r) pos) Γ (oAnd m n) := by
  intro F0 H0 σ F H A z ez Q q
  obtain ⟨x, e1, e2⟩ := bind_some ez
  refine jw_of (pw_and pt_w pw_w) ?_
  refine h F0 H0 σ F H A x e1 _ fun F' H' g => ?_
  cases x with
  | true =>
    rw [if_pos rfl] at e2 ⊢
    exact h2 F0 H0 σ F' H' (A.grow g) z e2 Q fun F2 H2 g2 => q F2 H2 (g.trans g2)
  | false =>
    rw [if_neg Bool.false_ne_true] at e2 ⊢
    cases e2
    exact q F' H' g
theorem jw_or {a c : Expr} {r : List Expr} {pos : Pos} {m n : Option Bool} (h : JT X b a Γ m) (h2 : JW X b (.BoolOp .Or (c :: r) pos) Γ n) : JW X b (.BoolOp .Or (a :: c :: r) pos) Γ (oOr m n) := by
  intro F0 H0 σ F H A z ez Q q
  obtain ⟨x, e1, e2⟩ := bind_some ez
  refine jw_of (pw_or pt_w pw_w) ?_
  refine h F0 H0 σ F H A x e1 _ fun F' H' g => ?_
  cases x with
  | true =>
    rw [if_pos rfl] at e2 ⊢
    cases e2
    exact q F' H' g
  | false =>
    rw [if_neg Bool.false_ne_true] at e2 ⊢
    exact h2 F0 H0 σ F' H' (A.grow g) z e2 Q fun F2 H2 g2 => q F2 H2 (g.trans g2)
theorem jt_not {a : Expr} {pos : Pos} {m : Option Bool} (h : JT X b a Γ m) : JT X b (.UnaryOp .Not a pos) Γ (oNot m) := by
  intro F0 H0 σ F H A z ez Q q
  obtain ⟨x, e1, e2⟩ := bind_some ez
  cases e2
  exact wT_of (pt_not pt_w) (h F0 H0 σ F H A x e1 _ fun F' H' g => q F' H' g)
/- as values -/
def JO (X : Cx) (b : Bool) (op : BoolOp) (es : List Expr) (pos : Pos) (Γ : List En) (m : Option Bool) : Prop := JE X b (.BoolOp op es pos) Γ (fr cB) m
theorem je_one {op : BoolOp} {a : Expr} {pos : Pos} {m : Option Bool} (h : JE X b a Γ (fr cB) m) : JE X b (.BoolOp op [a] pos) Γ (fr cB) m := fun F0 H0 σ F H A z ez Q q => wE_of (pe_one pe_w) (h F0 H0 σ F H A z ez Q q)
theorem je_and {a c : Expr} {r : List Expr} {pos : Pos} {m n : Option Bool} (h : JE X b a Γ (fr cB) m) (h2 : JE X b (.BoolOp .And (c :: r) pos) Γ (fr cB) n) : JE X b (.BoolOp .And (a :: c :: r) pos) Γ (fr cB) (oAnd m n) := by
  intro F0 H0 σ F H A z ez Q q
  obtain ⟨x, e1, e2⟩ := bind_some ez
  refine wE_of (pe_and pe_w pe_w) ?_
  refine h F0 H0 σ F H A x e1 _ fun v F' H' g rv => ⟨x, rv, ?_⟩
  cases x with
  | true =>
    rw [if_pos rfl] at e2 ⊢
    exact h2 F0 H0 σ F' H' (A.grow g) z e2 Q fun v F2 H2 g2 => q v F2 H2 (g.trans g2)
  | false =>
    rw [if_neg Bool.false_ne_true] at e2 ⊢
    cases e2
    exact q _ F' H' g rfl
theorem je_or {a c : Expr} {r : List Expr} {pos : Pos} {m n : Option Bool} (h : JE X b a Γ (fr cB) m) (h2 : JE X b (.BoolOp .Or (c :: r) pos) Γ (fr cB) n) : JE X b (.BoolOp .Or (a :: c :: r) pos) Γ (fr cB) (oOr m n) := by
  intro F0 H0 σ F H A z ez Q q
  obtain ⟨x, e1, e2⟩ := bind_some ez
  refine wE_of (pe_or pe_w pe_w) ?_
  refine h F0 H0 σ F H A x e1 _ fun v F' H' g rv => ⟨x, rv, ?_⟩
  cases x with
  | true =>
    rw [if_pos rfl] at e2 ⊢
    cases e2
    exact q _ F' H' g rfl
  | false =>
    rw [if_neg Bool.false_ne_true] at e2 ⊢
    exact h2 F0 H0 σ F' H' (A.grow g) z e2 Q fun v F2 H2 g2 => q v F2 H2 (g.trans g2)
theorem je_not {a : Expr} {pos : Pos} {m : Option Bool} (h : JE X b a Γ (fr cB) m) : JE X b (.UnaryOp .Not a pos) Γ (fr cB) (oNot m) := by
  intro F0 H0 σ F H A z ez Q q
  obtain ⟨x, e1, e2⟩ := bind_some ez
  cases e2
  exact wE_of (pe_not pe_w) (h F0 H0 σ F H A x e1 _ fun v F' H' g r => ⟨x, r, q _ F' H' g rfl⟩)
/- a op b op c -/
theorem jt_chain {a c d : Expr} {pos : Pos} {op op' : CmpOp} {r r' : R2} {α β γ : Type} {Ca : Cd α} {Cb : Cd β} {Cc : Cd γ} {f : α → β → Option Bool} {f' : β → γ → Option Bool} {m1 : Option α} {m2 : Option β} {m3 : Option γ}
    (ho : OpR X (compareOp op) r) (ho' : OpR X (compareOp op') r') (h : R2Ok r Ca Cb (fr cB) f) (h' : R2Ok r' Cb Cc (fr cB) f') (ha : JE X b a Γ (fr Ca) m1) (hc : JE X b c Γ (fr Cb) m2) (hd : JE X b d Γ (fr Cc) m3) (hm : lastMarks [op, op'] [c, d] = false := by with_unfolding_all rfl) :
    JT X b (.Compare a [op, op'] [c, d] pos) Γ (m1.bind fun x => m2.bind fun y => oAnd (f x y) (m3.bind fun z => f' y z)) := by
  intro F0 H0 σ F H A z ez Q q
  obtain ⟨x, e1, ez⟩ := bind_some ez
  obtain ⟨y, e2, ez⟩ := bind_some ez
  obtain ⟨t, e3, ez⟩ := bind_some ez
  refine wT_of (pt_chain ho ho' pe_w pe_w pe_w hm) ?_
  refine ha F0 H0 σ F H A x e1 _ fun v F1 H1 g1 r1 => ?_
  refine hc F0 H0 σ F1 H1 (A.grow g1) y e2 _ fun w F2 H2 g2 r2 => ?_
  have g12 := g1.trans g2
  refine h x y v w F2 H2 g2.fx (Ca.mono _ _ _ _ g2.fs r1) r2 t e3 _ fun v3 F3 H3 g3 r3 => ⟨t, r3, ?_⟩
  cases t with
  | true =>
    rw [if_pos rfl] at ez ⊢
    obtain ⟨u, e4, e5⟩ := bind_some ez
    refine hd F0 H0 σ F3 H3 (A.grow (g12.trans g3)) u e4 _ fun v4 F4 H4 g4 r4 => ?_
    exact h' y u w v4 F4 H4 g4.fx (Cb.mono _ _ _ _ (g3.fs.trans g4.fs) r2) r4 z e5 _ fun v5 F5 H5 g5 r5 => ⟨z, r5, q F5 H5 (((g12.trans g3).trans g4).trans g5)⟩
  | false =>
    rw [if_neg Bool.false_ne_true] at ez ⊢
    cases ez
    exact ⟨false, rfl, q F3 H3 (g12.trans g3)⟩
/- x if c else y -/
theorem je_ifx {c a d : Expr} {pos : Pos} {α : Type} {k : Rk α} {mc : Option Bool} {m1 m2 : Option α} (hc : JT X b c Γ mc) (ha : JE X b a Γ k m1) (hd : JE X b d Γ k m2) : JE X b (.IfExp c a d pos) Γ k (mc.bind fun t => if t = true then m1 else m2) := by
  intro F0 H0 σ F H A z ez Q q
  obtain ⟨x, e1, e2⟩ := bind_some ez
  refine wE_of (pe_ifExp pt_w pe_w pe_w) ?_
  refine hc F0 H0 σ F H A x e1 _ fun F' H' g => ?_
  cases x with
  | true =>
    rw [if_pos rfl] at e2 ⊢
    exact ha F0 H0 σ F' H' (A.grow g) z e2 Q fun v F2 H2 g2 r => q v F2 H2 (g.trans g2) (k.back _ _ _ _ _ _ g.hs r)
  | false =>
    rw [if_neg Bool.false_ne_true] at e2 ⊢
    exact hd F0 H0 σ F' H' (A.grow g) z e2 Q fun v F2 H2 g2 r => q v F2 H2 (g.trans g2) (k.back _ _ _ _ _ _ g.hs r)
end
end Cw
/- CwExp2: subscripts, data compared, built-ins. -/
namespace Cw
open PySem PySem.Spec L2
open PyProof.Rows hiding St

theorem paired_len {α β : Type} {G : α → β → Prop} {xs : List α} {vs : List β} (h : Paired G xs vs) : xs.length = vs.length := Paired.length h
theorem paired_fwd {α β : Type} {G : α → β → Prop} : ∀ {xs : List α} {vs : List β}, Paired G xs vs → ∀ {i : Nat} {x : α}, xs[i]? = some x → ∃ v, vs[i]? = some v ∧ G x v
  | _, _, .nil, i, v, h => by simp at h
  | _, _, .cons h _, 0, v, e => by simp at e; subst e; exact ⟨_, rfl, h⟩
  | _, _, .cons _ t, i + 1, v, e => by
    obtain ⟨x, h1, h2⟩ := paired_fwd t (i := i) (by simpa using e)
    exact ⟨x, by simpa using h1, h2⟩
theorem paired_atI {α β : Type} {G : α → β → Prop} {xs : List α} {vs : List β} (h : Paired G xs vs) {i : Int} {x : α} (e : atI xs i = some x) : ∃ v, atI vs i = some v ∧ G x v := by
  obtain ⟨j, h1, h2⟩ := bind_some e
  obtain ⟨v, h3, h4⟩ := paired_fwd h h2
  refine ⟨v, ?_, h4⟩
  unfold atI
  rw [← paired_len h, h1]
  exact h3
theorem paired_drop {α β : Type} {G : α → β → Prop} : ∀ {xs : List α} {vs : List β} (n : Nat), Paired G xs vs → Paired G (xs.drop n) (vs.drop n)
  | _, _, 0, h => h
  | _, _, _ + 1, .nil => .nil
  | _, _, n + 1, .cons _ t => paired_drop n t
theorem paired_take {α β : Type} {G : α → β → Prop} : ∀ {xs : List α} {vs : List β} (n : Nat), Paired G xs vs → Paired G (xs.take n) (vs.take n)
  | _, _, 0, _ => .nil
  | _, _, _ + 1, .nil => .nil
  | _, _, n + 1, .cons h t => .cons h (paired_take n t)
theorem paired_app {α β : Type} {G : α → β → Prop} : ∀ {xs ys : List α} {vs ws : List β}, Paired G xs vs → Paired G ys ws → Paired G (xs ++ ys) (vs ++ ws)
  | _, _, _, _, .nil, h => h
  | _, _, _, _, .cons h t, q => .cons h (paired_app t q)
theorem paired_int : ∀ {xs : List Int} {vs : List V} {F : Hp}, Paired (fun a v => cI.rep a v F) xs vs → vs = xs.map V.int
  | _, _, _, .nil => rfl
  | _, _, _, .cons h t => by rw [List.map_cons, ← paired_int t, show _ = V.int _ from h]
theorem paired_bl : ∀ {xs : List Bool} {vs : List V} {F : Hp}, Paired (fun a v => cB.rep a v F) xs vs → vs = xs.map V.bl
  | _, _, _, .nil => rfl
  | _, _, _, .cons h t => by rw [List.map_cons, ← paired_bl t, show _ = V.bl _ from h]
theorem paired_str : ∀ {xs : List Str} {vs : List V} {F : Hp}, Paired (fun a v => cS.rep a v F) xs vs → vs = xs.map V.str
  | _, _, _, .nil => rfl
  | _, _, _, .cons h t => by rw [List.map_cons, ← paired_str t, show _ = V.str _ from h]
theorem int_paired {F : Hp} : ∀ xs : List Int, Paired (fun a v => cI.rep a v F) xs (xs.map V.int)
  | [] => .nil
  | _ :: xs => .cons rfl (int_paired xs)
theorem str_paired {F : Hp} : ∀ xs : List Str, Paired (fun a v => cS.rep a v F) xs (xs.map V.str)
  | [] => .nil
  | _ :: xs => .cons rfl (str_paired xs)
theorem lst_of {F H : Hp} (x : FEx F H) {p : Addr} {vs : List V} (h : F p = some (.lst vs)) : H p = some (.lst vs) := x.ne h fun z => z
theorem tup_of {F H : Hp} (x : FEx F H) {p : Addr} {vs : List V} (h : F p = some (.tup vs)) : H p = some (.tup vs) := x.ne h fun z => z
section
variable {X : Cx} {b : Bool} {Γ : List En}
/- ## subscripts -/
theorem r2_ixL {K : PySem.W.Frag} {α : Type} {C : Cd α} : R2Ok (rIxL K) (cL C) cI (fr C) atI := by
  rintro xs i vx vy F H fx ⟨p, vs, rfl, h1, h2⟩ rfl z ez Q q
  obtain ⟨v, h3, h4⟩ := paired_atI h2 ez
  exact ⟨p, vs, i, v, rfl, rfl, SqL.of (lst_of fx h1), h3, q v F H (Grow.refl fx) h4⟩
theorem r2_ixT {K : PySem.W.Frag} {α : Type} {C : Cd α} : R2Ok (rIxT K) (cT C) cI (fr C) atI := by
  rintro xs i vx vy F H fx ⟨p, vs, rfl, h1, h2⟩ rfl z ez Q q
  obtain ⟨v, h3, h4⟩ := paired_atI h2 ez
  exact ⟨p, vs, i, v, rfl, rfl, SqT.of (tup_of fx h1), h3, q v F H (Grow.refl fx) h4⟩
theorem FEx.seq {K : PySem.W.Frag} {F H : Hp} (x : FEx F H) {p : Addr} {vs : List V} (h : SqL K F p vs) : SqL K H p vs := by
  rcases h with (h | ⟨o, h⟩) | h
  · exact SqL.of (lst_of x h)
  · exact .inl (.inr ⟨o, x.ne h fun z => z⟩)
  · exact .inr h
theorem r2_ixScr {K : PySem.W.Frag} : R2Ok (rIxL K) (cScr K) cI (fr cI) atI := by
  rintro xs i vx vy F H fx ⟨p, rfl, h1⟩ rfl z ez Q q
  obtain ⟨v, h3, h4⟩ := paired_atI (int_paired (F := F) xs) ez
  exact ⟨p, _, i, v, rfl, rfl, fx.seq h1, h3, q v F H (Grow.refl fx) h4⟩
/- fields of pairs and triples -/
theorem je_fld {a : Expr} {j : Int} {jj : Nat} {pos p2 : Pos} {α β : Type} {C : Cd α} {D : Cd β} {f : α → β} {m : Option α} (hC : ∀ x v F, C.rep x v F → ∃ p vs w, v = .ref p ∧ F p = some (.tup vs) ∧ atI vs j = some w ∧ D.rep (f x) w F)
    (ha : JE X b a Γ (fr C) m) (hs : PlainIx (.Constant (.int j) jj p2) := by intro _ _; rfl) : JE X b (.Subscript a (.Constant (.int j) jj p2) pos) Γ (fr D) (m.bind fun x => some (f x)) := by
  intro F0 H0 σ F H A z ez Q q
  obtain ⟨x, e1, e2⟩ := bind_some ez
  cases e2
  refine wE_of (pe_ix ix_tup pe_w pe_int hs) ?_
  refine ha F0 H0 σ F H A x e1 _ fun v F' H' g r => ?_
  obtain ⟨p, vs, w, rfl, h1, h2, h3⟩ := hC x v F' r
  exact ⟨p, vs, j, w, rfl, rfl, SqT.of (tup_of g.fx h1), h2, q w F' H' g h3⟩
theorem jv_fld {a : Expr} {j : Int} {jj : Nat} {pos p2 : Pos} {α β : Type} {C : Cd α} {D : Cd β} {f : α → β} {m : Option α} (hC : ∀ x v F, C.rep x v F → ∃ p vs w, v = .ref p ∧ F p = some (.tup vs) ∧ atI vs j = some w ∧ D.rep (f x) w F)
    (ha : JV X a Γ C m) (hs : PlainIx (.Constant (.int j) jj p2) := by intro _ _; rfl) : JV X (.Subscript a (.Constant (.int j) jj p2) pos) Γ D (m.bind fun x => some (f x)) := by
  intro b F0 H0 σ F H A z ez
  obtain ⟨x, e1, e2⟩ := bind_some ez
  cases e2
  obtain ⟨v, r, run⟩ := ha b F0 H0 σ F H A x e1
  obtain ⟨p, vs, w, rfl, h1, h2, h3⟩ := hC x v F r
  exact ⟨w, h3, fun H' fx Q q => wE_of (pe_ix ix_tup pe_w pe_int hs) (run H' fx _ ⟨p, vs, j, w, rfl, rfl, SqT.of (tup_of fx h1), h2, q⟩)⟩
theorem f20 {α β : Type} {A : Cd α} {B : Cd β} : ∀ x v F, (c2 A B).rep x v F → ∃ p vs w, v = .ref p ∧ F p = some (.tup vs) ∧ atI vs 0 = some w ∧ A.rep x.1 w F := fun _ _ _ ⟨p, u, w, h1, h2, h3, _⟩ => ⟨p, [u, w], u, h1, h2, rfl, h3⟩
theorem f21 {α β : Type} {A : Cd α} {B : Cd β} : ∀ x v F, (c2 A B).rep x v F → ∃ p vs w, v = .ref p ∧ F p = some (.tup vs) ∧ atI vs 1 = some w ∧ B.rep x.2 w F := fun _ _ _ ⟨p, u, w, h1, h2, _, h4⟩ => ⟨p, [u, w], w, h1, h2, rfl, h4⟩
theorem f30 {α β γ : Type} {A : Cd α} {B : Cd β} {C : Cd γ} : ∀ x v F, (c3 A B C).rep x v F → ∃ p vs w, v = .ref p ∧ F p = some (.tup vs) ∧ atI vs 0 = some w ∧ A.rep x.1 w F := fun _ _ _ ⟨p, u, w, z, h1, h2, h3, _⟩ => ⟨p, [u, w, z], u, h1, h2, rfl, h3⟩
theorem f31 {α β γ : Type} {A : Cd α} {B : Cd β} {C : Cd γ} : ∀ x v F, (c3 A B C).rep x v F → ∃ p vs w, v = .ref p ∧ F p = some (.tup vs) ∧ atI vs 1 = some w ∧ B.rep x.2.1 w F := fun _ _ _ ⟨p, u, w, z, h1, h2, _, h4, _⟩ => ⟨p, [u, w, z], w, h1, h2, rfl, h4⟩
theorem f32 {α β γ : Type} {A : Cd α} {B : Cd β} {C : Cd γ} : ∀ x v F, (c3 A B C).rep x v F → ∃ p vs w, v = .ref p ∧ F p = some (.tup vs) ∧ atI vs 2 = some w ∧ C.rep x.2.2 w F := fun _ _ _ ⟨p, u, w, z, h1, h2, _, _, h5⟩ => ⟨p, [u, w, z], z, h1, h2, rfl, h5⟩
/- dicts -/
def lookD {α : Type} (kvs : List (Int × α)) (k : Int) : Option α := (kvs.find? fun p => decide (p.1 = k)).map (·.2)
theorem paired_look {α : Type} {C : Cd α} {F : Hp} : ∀ {kvs : List (Int × α)} {ks : List (Key × V)} (k : Int), Paired (fun (p : Int × α) (q : Key × V) => q.1 = Sum.inl p.1 ∧ C.rep p.2 q.2 F) kvs ks →
    (∀ a, lookD kvs k = some a → ∃ v, valV ks (Sum.inl k) = some v ∧ C.rep a v F) ∧ (lookD kvs k = none → valV ks (Sum.inl k) = none)
  | _, _, k, .nil => ⟨fun _ h => (nomatch h), fun _ => rfl⟩
  | (k', a') :: kvs, (key, v') :: ks, k, .cons ⟨h1, h2⟩ t => by
    have h1 : key = Sum.inl k' := h1
    subst h1
    by_cases e : k' = k
    · subst e
      refine ⟨fun a h => ⟨v', by simp [valV], ?_⟩, fun h => ?_⟩
      · have h : some a' = some a := by simpa [lookD] using h
        cases h
        exact h2
      · simp [lookD] at h
    · have ih := paired_look k t
      have e1 : lookD ((k', a') :: kvs) k = lookD kvs k := by simp [lookD, e]
      have e2 : valV ((Sum.inl k', v') :: ks) (Sum.inl k : Key) = valV ks (Sum.inl k) := by
        have e' : ¬ (Sum.inl k' : Key) = Sum.inl k := fun z => e (Sum.inl.inj z)
        rw [valV_neg e']
      rw [e1, e2]
      exact ih
theorem dget_of {α : Type} {C : Cd α} {kvs : List (Int × α)} {d : Addr} {ks : List (Key × V)} {F H : Hp} (fx : FEx F H) (h : F d = some (.dK ks)) (k : Int) : DGet H d (.int k) (valV ks (Sum.inl k)) := .inl ⟨ks, Sum.inl k, fx.rd h, rfl, rfl⟩
theorem je_dget {a c : Expr} {pos : Pos} {α : Type} {C : Cd α} {m1 : Option (List (Int × α))} {m2 : Option Int} (hu : X.A.units + 1 < cLine) (ha : JE X b a Γ (fr (cD C)) m1) (hc : JE X b c Γ (fr cI) m2) (hs : NoSl c := by intro _ _; rfl) :
    JE X b (.Subscript a c pos) Γ (fr C) (bind2 m1 m2 lookD) := by
  intro F0 H0 σ F H A z ez Q q
  obtain ⟨kvs, k, e1, e2, e3⟩ := bind2_some ez
  refine wE_of (pe_dget hu pe_w pe_w hs) ?_
  refine ha F0 H0 σ F H A kvs e1 _ fun v F1 H1 g1 r1 => ?_
  refine hc F0 H0 σ F1 H1 (A.grow g1) k e2 _ fun w F2 H2 g2 r2 => ?_
  obtain ⟨d, ks, rfl, h1, h2⟩ := (cD C).mono _ _ _ _ g2.fs r1
  cases (show w = .int k from r2)
  obtain ⟨u, h3, h4⟩ := (paired_look k h2).1 z e3
  exact ⟨d, u, rfl, by rw [← h3]; exact dget_of (C := C) (kvs := kvs) g2.fx h1 k, q u F2 H2 (g1.trans g2) h4⟩
def pHas {α : Type} (k : Int) (kvs : List (Int × α)) : Option Bool := some (lookD kvs k).isSome
def pHasNot {α : Type} (k : Int) (kvs : List (Int × α)) : Option Bool := some (!(lookD kvs k).isSome)
theorem look_isSome {α : Type} {C : Cd α} {F : Hp} {kvs : List (Int × α)} {ks : List (Key × V)} (k : Int) (h : Paired (fun (p : Int × α) (q : Key × V) => q.1 = Sum.inl p.1 ∧ C.rep p.2 q.2 F) kvs ks) : (valV ks (Sum.inl k)).isSome = (lookD kvs k).isSome := by
  have q := paired_look k h
  cases e : lookD kvs k with
  | none => rw [q.2 e]; rfl
  | some a => obtain ⟨v, h1, _⟩ := q.1 a e; rw [h1]; rfl
theorem jt_din {a c : Expr} {pos : Pos} {α : Type} {C : Cd α} {m1 : Option Int} {m2 : Option (List (Int × α))} (hu : X.A.units + 1 < cLine) (ha : JE X b a Γ (fr cI) m1) (hc : JE X b c Γ (fr (cD C)) m2) (hm : behindInMarks .In c = false := by first | exact nobehind _ (by decide) (by decide) | rfl) :
    JT X b (.Compare a [.In] [c] pos) Γ (bind2 m1 m2 pHas) := by
  intro F0 H0 σ F H A z ez Q q
  obtain ⟨k, kvs, e1, e2, e3⟩ := bind2_some ez
  cases e3
  refine wT_of (pt_cmp (pc_din hu pe_w pe_w) hm) ?_
  refine ha F0 H0 σ F H A k e1 _ fun v F1 H1 g1 r1 => ?_
  refine hc F0 H0 σ F1 H1 (A.grow g1) kvs e2 _ fun w F2 H2 g2 r2 => ?_
  obtain ⟨d, ks, rfl, h1, h2⟩ := r2
  cases (show v = .int k from r1)
  exact ⟨d, _, rfl, dget_of (C := C) (kvs := kvs) g2.fx h1 k, _, by rw [look_isSome k h2], q F2 H2 (g1.trans g2)⟩
theorem jt_dnotin {a c : Expr} {pos : Pos} {α : Type} {C : Cd α} {m1 : Option Int} {m2 : Option (List (Int × α))} (hu : X.A.units + 1 < cLine) (ha : JE X b a Γ (fr cI) m1) (hc : JE X b c Γ (fr (cD C)) m2) (hm : behindInMarks .NotIn c = false := by first | exact nobehind _ (by decide) (by decide) | rfl) :
    JT X b (.Compare a [.NotIn] [c] pos) Γ (bind2 m1 m2 pHasNot) := by
  intro F0 H0 σ F H A z ez Q q
  obtain ⟨k, kvs, e1, e2, e3⟩ := bind2_some ez
  cases e3
  refine wT_of (pt_cmp (pc_dnotin hu pe_w pe_w) hm) ?_
  refine ha F0 H0 σ F H A k e1 _ fun v F1 H1 g1 r1 => ?_
  refine hc F0 H0 σ F1 H1 (A.grow g1) kvs e2 _ fun w F2 H2 g2 r2 => ?_
  obtain ⟨d, ks, rfl, h1, h2⟩ := r2
  cases (show v = .int k from r1)
  exact ⟨d, _, rfl, dget_of (C := C) (kvs := kvs) g2.fx h1 k, _, by rw [look_isSome k h2], q F2 H2 (g1.trans g2)⟩
theorem je_din {a c : Expr} {pos : Pos} {α : Type} {C : Cd α} {m1 : Option Int} {m2 : Option (List (Int × α))} (hu : X.A.units + 1 < cLine) (ha : JE X b a Γ (fr cI) m1) (hc : JE X b c Γ (fr (cD C)) m2) (hm : behindInMarks .In c = false := by first | exact nobehind _ (by decide) (by decide) | rfl) :
    JE X b (.Compare a [.In] [c] pos) Γ (fr cB) (bind2 m1 m2 pHas) := by
  intro F0 H0 σ F H A z ez Q q
  obtain ⟨k, kvs, e1, e2, e3⟩ := bind2_some ez
  cases e3
  refine wE_of (pe_cmp (pc_din hu pe_w pe_w) hm) ?_
  refine ha F0 H0 σ F H A k e1 _ fun v F1 H1 g1 r1 => ?_
  refine hc F0 H0 σ F1 H1 (A.grow g1) kvs e2 _ fun w F2 H2 g2 r2 => ?_
  obtain ⟨d, ks, rfl, h1, h2⟩ := r2
  cases (show v = .int k from r1)
  exact ⟨d, _, rfl, dget_of (C := C) (kvs := kvs) g2.fx h1 k, q _ F2 H2 (g1.trans g2) (by rw [look_isSome k h2]; rfl)⟩
/- ## in, not in -/
structure Fl {α : Type} (C : Cd α) where
  val : α → V
  ok : ∀ a v F, C.rep a v F → v = val a
  fl : ∀ a, flatV (val a) = true
def fI : Fl cI := ⟨V.int, fun _ _ _ h => h, fun _ => rfl⟩
def fS : Fl cS := ⟨V.str, fun _ _ _ h => h, fun _ => rfl⟩
def fO : Fl cO := ⟨vO, fun _ _ _ h => h, fun o => by cases o <;> rfl⟩
theorem paired_val {α : Type} {C : Cd α} (fl : Fl C) {F : Hp} : ∀ {xs : List α} {vs : List V}, Paired (fun a v => C.rep a v F) xs vs → vs = xs.map fl.val
  | _, _, .nil => rfl
  | _, _, .cons h t => by rw [List.map_cons, ← paired_val fl t, fl.ok _ _ _ h]
theorem all_flat {α : Type} {C : Cd α} (fl : Fl C) (xs : List α) : (xs.map fl.val).all flatV = true := by
  rw [List.all_map]
  exact List.all_eq_true.mpr fun x _ => fl.fl x
theorem r2_inG {K : PySem.W.Frag} {α β : Type} {C : Cd α} {D : Cd β} (fc : Fl C) (fd : Fl D) {E : Cd (List β)} (neg : Bool) (hE : ∀ xs v F, E.rep xs v F → ∃ p vs, v = .ref p ∧ (F p = some (.lst vs) ∨ F p = some (.tup vs)) ∧ Paired (fun a v => D.rep a v F) xs vs) {f : α → List β → Bool}
    (hf : ∀ a xs, inV (fc.val a) (xs.map fd.val) = f a xs) : R2Ok (rIn K neg) C E (fr cB) (fun a xs => some (if neg then !f a xs else f a xs)) := by
  intro a xs vx vy F H fx h1 h2 z ez Q q
  obtain ⟨p, vs, rfl, h3, h4⟩ := hE xs vy F h2
  cases ez
  have e1 := fc.ok _ _ _ h1
  subst e1
  have e2 := paired_val fd h4
  subst e2
  refine ⟨p, _, rfl, ?_, fc.fl a, all_flat fd xs, q _ F H (Grow.refl fx) ?_⟩
  · rcases h3 with h3 | h3
    · exact .inl (SqL.of (lst_of fx h3))
    · exact .inr (SqT.of (tup_of fx h3))
  · rw [hf]; rfl
theorem eL {α : Type} {C : Cd α} : ∀ xs v F, (cL C).rep xs v F → ∃ p vs, v = .ref p ∧ (F p = some (.lst vs) ∨ F p = some (.tup vs)) ∧ Paired (fun a v => C.rep a v F) xs vs := fun _ _ _ ⟨p, vs, h1, h2, h3⟩ => ⟨p, vs, h1, .inl h2, h3⟩
theorem eT {α : Type} {C : Cd α} : ∀ xs v F, (cT C).rep xs v F → ∃ p vs, v = .ref p ∧ (F p = some (.lst vs) ∨ F p = some (.tup vs)) ∧ Paired (fun a v => C.rep a v F) xs vs := fun _ _ _ ⟨p, vs, h1, h2, h3⟩ => ⟨p, vs, h1, .inr h2, h3⟩
def inI (a : Int) (xs : List Int) : Bool := xs.any fun y => y == a
def inS (a : Str) (xs : List Str) : Bool := xs.any fun y => y == a
def inO (a : Option Int) (xs : List Int) : Bool := xs.any fun y => some y == a
def pIn (a : Int) (xs : List Int) : Option Bool := some (inI a xs)
def pNotIn (a : Int) (xs : List Int) : Option Bool := some (!inI a xs)
def pInS (a : Str) (xs : List Str) : Option Bool := some (inS a xs)
def pNotInS (a : Str) (xs : List Str) : Option Bool := some (!inS a xs)
def pInO (a : Option Int) (xs : List Int) : Option Bool := some (inO a xs)
def pNotInO (a : Option Int) (xs : List Int) : Option Bool := some (!inO a xs)
theorem inV_I (a : Int) (xs : List Int) : inV (fI.val a) (xs.map fI.val) = inI a xs := by
  unfold inV inI; rw [List.any_map]; rfl
theorem inV_S (a : Str) (xs : List Str) : inV (fS.val a) (xs.map fS.val) = inS a xs := by
  unfold inV inS; rw [List.any_map]; rfl
theorem inV_O (a : Option Int) (xs : List Int) : inV (fO.val a) (xs.map fI.val) = inO a xs := by
  unfold inV inO; rw [List.any_map]
  congr 1
  funext y
  cases a <;> rfl
theorem r2_inL {K : PySem.W.Frag} : R2Ok (rIn K false) cI (cL cI) (fr cB) pIn := r2_inG fI fI false eL inV_I
theorem r2_inT {K : PySem.W.Frag} : R2Ok (rIn K false) cI (cT cI) (fr cB) pIn := r2_inG fI fI false eT inV_I
theorem r2_niL {K : PySem.W.Frag} : R2Ok (rIn K true) cI (cL cI) (fr cB) pNotIn := r2_inG fI fI true eL inV_I
theorem r2_niT {K : PySem.W.Frag} : R2Ok (rIn K true) cI (cT cI) (fr cB) pNotIn := r2_inG fI fI true eT inV_I
theorem r2_inLS {K : PySem.W.Frag} : R2Ok (rIn K false) cS (cL cS) (fr cB) pInS := r2_inG fS fS false eL inV_S
theorem r2_inTS {K : PySem.W.Frag} : R2Ok (rIn K false) cS (cT cS) (fr cB) pInS := r2_inG fS fS false eT inV_S
theorem r2_niLS {K : PySem.W.Frag} : R2Ok (rIn K true) cS (cL cS) (fr cB) pNotInS := r2_inG fS fS true eL inV_S
theorem r2_niTS {K : PySem.W.Frag} : R2Ok (rIn K true) cS (cT cS) (fr cB) pNotInS := r2_inG fS fS true eT inV_S
theorem r2_inTO {K : PySem.W.Frag} : R2Ok (rIn K false) cO (cT cI) (fr cB) pInO := r2_inG fO fI false eT inV_O
theorem r2_niTO {K : PySem.W.Frag} : R2Ok (rIn K true) cO (cT cI) (fr cB) pNotInO := r2_inG fO fI true eT inV_O
/- ## data compared -/
structure Dat {α : Type} [DecidableEq α] (C : Cd α) where
  d : α → PyData
  n : Nat
  ok : ∀ K a v F H, FEx F H → C.rep a v F → Dp K H v (d a)
  lay : ∀ a, (d a).canLay0 = true
  dep : ∀ a, (d a).depth ≤ n
  eq : ∀ a c, PyData.eqv (d a) (d c) = decide (a = c)
theorem Dat.sh {α : Type} [DecidableEq α] {C : Cd α} (D : Dat C) (h : D.n ≤ 64) (a : α) : SeqAt.shaped (D.d a) = true := by
  unfold SeqAt.shaped
  rw [D.lay a, Bool.true_and, decide_eq_true_eq]
  exact Nat.le_trans (D.dep a) h
def dI : Dat cI := ⟨.int, 0, fun _ _ _ _ _ _ h => by cases h; exact .int _, fun _ => rfl, fun _ => by simp [PyData.depth], fun a c => by simp [PyData.eqv]; rfl⟩
def dB : Dat cB := ⟨.bool, 0, fun _ _ _ _ _ _ h => by cases h; exact .bl _, fun _ => rfl, fun _ => by simp [PyData.depth], fun a c => by simp [PyData.eqv]; rfl⟩
end
end Cw
/- CwExp3: data compared, built-ins, walks, comprehensions, displays, changes. -/
namespace Cw
open PySem PySem.Spec L2
open PyProof.Rows hiding St

/- ## data -/
theorem dp_all {α : Type} [DecidableEq α] {C : Cd α} (D : Dat C) {K : PySem.W.Frag} {F H : Hp} (fx : FEx F H) : ∀ {xs : List α} {vs : List V}, Paired (fun a v => C.rep a v F) xs vs → DpAll K H vs (xs.map D.d)
  | _, _, .nil => .nil
  | _, _, .cons h t => .cons (D.ok K _ _ F H fx h) (dp_all D fx t)
theorem lay_all {α : Type} [DecidableEq α] {C : Cd α} (D : Dat C) : ∀ xs : List α, PyData.canLayAll0 (xs.map D.d) = true
  | [] => rfl
  | x :: xs => by
    have h1 := D.lay x
    have h2 := lay_all D xs
    simp [PyData.canLayAll0, h1, h2]
theorem dep_all {α : Type} [DecidableEq α] {C : Cd α} (D : Dat C) : ∀ xs : List α, PyData.depthAll (xs.map D.d) ≤ D.n
  | [] => by simp [PyData.depthAll]
  | x :: xs => by
    have h1 := D.dep x
    have h2 := dep_all D xs
    simp only [List.map_cons, PyData.depthAll]
    omega
theorem eq_all {α : Type} [DecidableEq α] {C : Cd α} (D : Dat C) : ∀ xs ys : List α, PyData.eqvAll (xs.map D.d) (ys.map D.d) = decide (xs = ys)
  | [], [] => rfl
  | [], _ :: _ => rfl
  | _ :: _, [] => rfl
  | x :: xs, y :: ys => by
    have h2 := eq_all D xs ys
    simp only [List.map_cons, PyData.eqvAll, D.eq, h2, List.cons.injEq, Bool.decide_and]
def dL {α : Type} [DecidableEq α] {C : Cd α} (D : Dat C) : Dat (cL C) where
  d := fun xs => .list (xs.map D.d)
  n := D.n + 1
  ok := fun K xs v F H fx ⟨p, vs, e, h1, h2⟩ => by subst e; exact .lst (SqL.of (lst_of fx h1)) (dp_all D fx h2)
  lay := fun xs => by show PyData.canLayAll0 _ = true; exact lay_all D xs
  dep := fun xs => by have := dep_all D xs; simp only [PyData.depth]; omega
  eq := fun xs ys => by rw [PyData.eqv]; exact eq_all D xs ys
def dT {α : Type} [DecidableEq α] {C : Cd α} (D : Dat C) : Dat (cT C) where
  d := fun xs => .tuple (xs.map D.d)
  n := D.n + 1
  ok := fun K xs v F H fx ⟨p, vs, e, h1, h2⟩ => by subst e; exact .tup (SqT.of (tup_of fx h1)) (dp_all D fx h2)
  lay := fun xs => by show PyData.canLayAll0 _ = true; exact lay_all D xs
  dep := fun xs => by have := dep_all D xs; simp only [PyData.depth]; omega
  eq := fun xs ys => by rw [PyData.eqv]; exact eq_all D xs ys
def d2 {α β : Type} [DecidableEq α] [DecidableEq β] {A : Cd α} {B : Cd β} (D : Dat A) (E : Dat B) : Dat (c2 A B) where
  d := fun x => .tuple [D.d x.1, E.d x.2]
  n := max D.n E.n + 1
  ok := fun K x v F H fx ⟨p, u, w, e, h1, h2, h3⟩ => by subst e; exact .tup (SqT.of (tup_of fx h1)) (.cons (D.ok K _ _ F H fx h2) (.cons (E.ok K _ _ F H fx h3) .nil))
  lay := fun x => by have h1 := D.lay x.1; have h2 := E.lay x.2; simp [PyData.canLay0, PyData.canLayAll0, h1, h2]
  dep := fun x => by have h1 := D.dep x.1; have h2 := E.dep x.2; simp only [PyData.depth, PyData.depthAll]; omega
  eq := fun x y => by
    obtain ⟨x1, x2⟩ := x
    obtain ⟨y1, y2⟩ := y
    simp only [PyData.eqv, PyData.eqvAll, D.eq, E.eq, Bool.and_true, Prod.mk.injEq, Bool.decide_and]
def d3 {α β γ : Type} [DecidableEq α] [DecidableEq β] [DecidableEq γ] {A : Cd α} {B : Cd β} {C : Cd γ} (D : Dat A) (E : Dat B) (G : Dat C) : Dat (c3 A B C) where
  d := fun x => .tuple [D.d x.1, E.d x.2.1, G.d x.2.2]
  n := max D.n (max E.n G.n) + 1
  ok := fun K x v F H fx ⟨p, u, w, z, e, h1, h2, h3, h4⟩ => by subst e; exact .tup (SqT.of (tup_of fx h1)) (.cons (D.ok K _ _ F H fx h2) (.cons (E.ok K _ _ F H fx h3) (.cons (G.ok K _ _ F H fx h4) .nil)))
  lay := fun x => by have h1 := D.lay x.1; have h2 := E.lay x.2.1; have h3 := G.lay x.2.2; simp [PyData.canLay0, PyData.canLayAll0, h1, h2, h3]
  dep := fun x => by have h1 := D.dep x.1; have h2 := E.dep x.2.1; have h3 := G.dep x.2.2; simp only [PyData.depth, PyData.depthAll]; omega
  eq := fun x y => by
    obtain ⟨x1, x2, x3⟩ := x
    obtain ⟨y1, y2, y3⟩ := y
    simp only [PyData.eqv, PyData.eqvAll, D.eq, E.eq, G.eq, Bool.and_true, Prod.mk.injEq, Bool.decide_and]
def dPl : Dat cPl := d3 dI dI (dT dI)
def dGm : Dat cGm := dT dPl
def pEqG {α : Type} [DecidableEq α] (a c : α) : Option Bool := some (decide (a = c))
def pNeG {α : Type} [DecidableEq α] (a c : α) : Option Bool := some (!decide (a = c))
theorem r2_eqD {α : Type} [DecidableEq α] {C : Cd α} (D : Dat C) {K : PySem.W.Frag} (h : D.n ≤ 64 := by decide) : R2Ok (rEqD K) C C (fr cB) pEqG := by
  intro a c vx vy F H fx h1 h2 z ez Q q
  cases ez
  exact ⟨_, _, D.ok K _ _ F H fx h1, D.ok K _ _ F H fx h2, D.sh h _, D.sh h _, q _ F H (Grow.refl fx) (by rw [D.eq]; rfl)⟩
theorem r2_neD {α : Type} [DecidableEq α] {C : Cd α} (D : Dat C) {K : PySem.W.Frag} (h : D.n ≤ 64 := by decide) : R2Ok (rNeD K) C C (fr cB) pNeG := by
  intro a c vx vy F H fx h1 h2 z ez Q q
  cases ez
  exact ⟨_, _, D.ok K _ _ F H fx h1, D.ok K _ _ F H fx h2, D.sh h _, D.sh h _, q _ F H (Grow.refl fx) (by rw [D.eq]; rfl)⟩

/- ## built-ins of one operand -/
def C1Ok (b : Bool) (r : List V → Hp → VK → Prop) {α γ : Type} (C : Cd α) (k : Rk γ) (f : α → Option γ) : Prop :=
  ∀ a v F H, FEx F H → (b = true → NoLk H) → C.rep a v F → ∀ z, f a = some z → ∀ Q : VK, (∀ v F' H', Grow F H F' H' → k.p z v H F' H' → Q v H') → r [v] H Q
section
variable {X : Cx} {b : Bool} {Γ : List En}
theorem je_bi {id : String} {x : Str} {p pos : Pos} {e : Expr} {r : List V → Hp → VK → Prop} {α γ : Type} {C : Cd α} {k : Rk γ} {f : α → Option γ} {m : Option α} (hc : CallR X (.builtin id) r) (h : C1Ok b r C k f) (hg : Gl X x) (hm : X.mg x = none) (hv : bootBuiltins x = some (.builtin id)) (ha : JE X b e Γ (fr C) m)
    (hn : x ≠ "__name__" := by decide) (hdb : (x == ("__debug__" : Str)) = false := by decide) (hs : starEach [e] X.env = (false, eval e X.env) :: starEach [] X.env := by rfl) :
    JE X b (.Call (.Name x p) [e] [] pos) Γ k (m.bind f) := by
  intro F0 H0 σ F H A z ez Q q
  obtain ⟨a, e1, e2⟩ := bind_some ez
  refine wE_of (pe_callB hc hg hm hv (pa_cons pe_w pa_nil hs) hn hdb (he := hs)) ?_
  refine ha F0 H0 σ F H A a e1 _ fun v F1 H1 g1 r1 => ?_
  exact h a v F1 H1 g1.fx (fun t => (A.grow g1).nl t) r1 z e2 Q fun v F2 H2 g2 r2 => q v F2 H2 (g1.trans g2) (k.back _ _ _ _ _ _ g1.hs r2)
theorem je_ty {T : String} {x : Str} {p pos : Pos} {e : Expr} {r : List V → Hp → VK → Prop} {α γ : Type} {C : Cd α} {k : Rk γ} {f : α → Option γ} {m : Option α} (hc : CallR X (.type T) r) (h : C1Ok b r C k f) (hg : Gl X x) (hm : X.mg x = none) (hv : bootBuiltins x = some (.type T)) (ha : JE X b e Γ (fr C) m)
    (hn : x ≠ "__name__" := by decide) (hdb : (x == ("__debug__" : Str)) = false := by decide) (hs : starEach [e] X.env = (false, eval e X.env) :: starEach [] X.env := by rfl) :
    JE X b (.Call (.Name x p) [e] [] pos) Γ k (m.bind f) := by
  intro F0 H0 σ F H A z ez Q q
  obtain ⟨a, e1, e2⟩ := bind_some ez
  refine wE_of (pe_callTy hc hg hm hv (pa_cons pe_w pa_nil hs) hn hdb (he := hs)) ?_
  refine ha F0 H0 σ F H A a e1 _ fun v F1 H1 g1 r1 => ?_
  exact h a v F1 H1 g1.fx (fun t => (A.grow g1).nl t) r1 z e2 Q fun v F2 H2 g2 r2 => q v F2 H2 (g1.trans g2) (k.back _ _ _ _ _ _ g1.hs r2)
def pLen {α : Type} (xs : List α) : Option Int := some (xs.length : Int)
theorem c1_lenL {α : Type} {C : Cd α} {K : PySem.W.Frag} : C1Ok b (fun xs H Q => ∃ p ys, xs = [V.ref p] ∧ (SqL K H p ys ∨ SqT K H p ys) ∧ Q (.int ys.length) H) (cL C) (fr cI) pLen := by
  rintro a v F H fx _ ⟨p, vs, rfl, h1, h2⟩ z ez Q q
  cases ez
  exact ⟨p, vs, rfl, .inl (SqL.of (lst_of fx h1)), q _ F H (Grow.refl fx) (by rw [paired_len h2]; rfl)⟩
theorem c1_lenT {α : Type} {C : Cd α} {K : PySem.W.Frag} : C1Ok b (fun xs H Q => ∃ p ys, xs = [V.ref p] ∧ (SqL K H p ys ∨ SqT K H p ys) ∧ Q (.int ys.length) H) (cT C) (fr cI) pLen := by
  rintro a v F H fx _ ⟨p, vs, rfl, h1, h2⟩ z ez Q q
  cases ez
  exact ⟨p, vs, rfl, .inr (SqT.of (tup_of fx h1)), q _ F H (Grow.refl fx) (by rw [paired_len h2]; rfl)⟩
theorem c1_lenScr {K : PySem.W.Frag} : C1Ok b (fun xs H Q => ∃ p ys, xs = [V.ref p] ∧ (SqL K H p ys ∨ SqT K H p ys) ∧ Q (.int ys.length) H) (cScr K) (fr cI) pLen := by
  rintro a v F H fx _ ⟨p, rfl, h1⟩ z ez Q q
  cases ez
  exact ⟨p, _, rfl, .inl (fx.seq h1), q _ F H (Grow.refl fx) (by rw [List.length_map]; rfl)⟩
theorem c1_lenD {α : Type} {C : Cd α} : C1Ok true (fun xs H Q => ∃ a kvs, xs = [V.ref a] ∧ H a = some (.dK kvs) ∧ Q (.int kvs.length) H) (cD C) (fr cI) pLen := by
  rintro a v F H fx nl ⟨p, vs, rfl, h1, h2⟩ z ez Q q
  cases ez
  exact ⟨p, vs, rfl, fx.un (nl rfl) h1, q _ F H (Grow.refl fx) (by rw [paired_len h2]; rfl)⟩
/- max, min, sum, any, all -/
def pMax : List Int → Option Int
  | [] => none
  | x :: r => some (r.foldl max x)
def pMin : List Int → Option Int
  | [] => none
  | x :: r => some (r.foldl min x)
theorem foldl_max (r : List Int) : ∀ x : Int, (r.foldl max x = x ∨ r.foldl max x ∈ r) ∧ x ≤ r.foldl max x ∧ ∀ y ∈ r, y ≤ r.foldl max x := by
  induction r with
  | nil => intro x; exact ⟨.inl rfl, Int.le_refl _, fun y h => by simp at h⟩
  | cons a r ih =>
    intro x
    obtain ⟨h1, h2, h3⟩ := ih (max x a)
    rw [List.foldl_cons]
    refine ⟨?_, by omega, fun y hy => ?_⟩
    · rcases h1 with h1 | h1
      · rw [h1]
        by_cases c : x ≤ a
        · right; rw [Int.max_eq_right c]; exact List.mem_cons_self
        · left; omega
      · exact .inr (List.mem_cons_of_mem _ h1)
    · rcases List.mem_cons.mp hy with e | e
      · rw [e]; omega
      · exact h3 y e
theorem foldl_min (r : List Int) : ∀ x : Int, (r.foldl min x = x ∨ r.foldl min x ∈ r) ∧ r.foldl min x ≤ x ∧ ∀ y ∈ r, r.foldl min x ≤ y := by
  induction r with
  | nil => intro x; exact ⟨.inl rfl, Int.le_refl _, fun y h => by simp at h⟩
  | cons a r ih =>
    intro x
    obtain ⟨h1, h2, h3⟩ := ih (min x a)
    rw [List.foldl_cons]
    refine ⟨?_, by omega, fun y hy => ?_⟩
    · rcases h1 with h1 | h1
      · rw [h1]
        by_cases c : x ≤ a
        · left; omega
        · right; rw [Int.min_eq_right (by omega)]; exact List.mem_cons_self
      · exact .inr (List.mem_cons_of_mem _ h1)
    · rcases List.mem_cons.mp hy with e | e
      · rw [e]; omega
      · exact h3 y e
theorem pMax_spec {xs : List Int} {m : Int} (h : pMax xs = some m) : m ∈ xs ∧ ∀ y ∈ xs, y ≤ m := by
  cases xs with
  | nil => cases h
  | cons x r =>
    cases h
    obtain ⟨h1, h2, h3⟩ := foldl_max r x
    refine ⟨?_, fun y hy => ?_⟩
    · rcases h1 with h1 | h1
      · rw [h1]; exact List.mem_cons_self
      · exact List.mem_cons_of_mem _ h1
    · rcases List.mem_cons.mp hy with e | e
      · rw [e]; exact h2
      · exact h3 y e
theorem pMin_spec {xs : List Int} {m : Int} (h : pMin xs = some m) : m ∈ xs ∧ ∀ y ∈ xs, m ≤ y := by
  cases xs with
  | nil => cases h
  | cons x r =>
    cases h
    obtain ⟨h1, h2, h3⟩ := foldl_min r x
    refine ⟨?_, fun y hy => ?_⟩
    · rcases h1 with h1 | h1
      · rw [h1]; exact List.mem_cons_self
      · exact List.mem_cons_of_mem _ h1
    · rcases List.mem_cons.mp hy with e | e
      · rw [e]; exact h2
      · exact h3 y e
theorem c1_max {K : PySem.W.Frag} : C1Ok b (rMax K) (cL cI) (fr cI) pMax := by
  rintro xs v F H fx _ ⟨p, vs, rfl, h1, h2⟩ z ez Q q
  have e := paired_int h2
  subst e
  obtain ⟨s1, s2⟩ := pMax_spec ez
  refine ⟨p, xs, rfl, SqL.of (lst_of fx h1), List.length_pos_of_mem s1, fun m hm hle => ?_⟩
  have : m = z := Int.le_antisymm (s2 m hm) (hle z s1)
  subst this
  exact q _ F H (Grow.refl fx) rfl
theorem c1_min {K : PySem.W.Frag} : C1Ok b (rMin K) (cL cI) (fr cI) pMin := by
  rintro xs v F H fx _ ⟨p, vs, rfl, h1, h2⟩ z ez Q q
  have e := paired_int h2
  subst e
  obtain ⟨s1, s2⟩ := pMin_spec ez
  refine ⟨p, xs, rfl, SqL.of (lst_of fx h1), List.length_pos_of_mem s1, fun m hm hle => ?_⟩
  have : m = z := Int.le_antisymm (hle z s1) (s2 m hm)
  subst this
  exact q _ F H (Grow.refl fx) rfl
def pSum (xs : List Int) : Option Int := some xs.sum
def pAny (xs : List Bool) : Option Bool := some (xs.any id)
def pAll (xs : List Bool) : Option Bool := some (xs.all id)
theorem c1_sum {K : PySem.W.Frag} : C1Ok b (rSum K) (cL cI) (fr cI) pSum := by
  rintro xs v F H fx _ ⟨p, vs, rfl, h1, h2⟩ z ez Q q
  have e := paired_int h2
  subst e
  cases ez
  exact ⟨p, xs, rfl, SqL.of (lst_of fx h1), q _ F H (Grow.refl fx) rfl⟩
theorem c1_any {K : PySem.W.Frag} : C1Ok b (rAny K) (cL cB) (fr cB) pAny := by
  rintro xs v F H fx _ ⟨p, vs, rfl, h1, h2⟩ z ez Q q
  have e := paired_bl h2
  subst e
  cases ez
  exact ⟨p, xs, rfl, SqL.of (lst_of fx h1), q _ F H (Grow.refl fx) rfl⟩
theorem c1_all {K : PySem.W.Frag} : C1Ok b (rAll K) (cL cB) (fr cB) pAll := by
  rintro xs v F H fx _ ⟨p, vs, rfl, h1, h2⟩ z ez Q q
  have e := paired_bl h2
  subst e
  cases ez
  exact ⟨p, xs, rfl, SqL.of (lst_of fx h1), q _ F H (Grow.refl fx) rfl⟩
/- int(flag) -/
def pInt1 (t : Bool) : Option Int := some (if t = true then 1 else 0)
theorem c1_intB : C1Ok b (fun xs H Q => (∃ i, xs = [V.int i] ∧ Q (.int i) H) ∨ ∃ k, xs = [V.bl k] ∧ Q (.int (if k then 1 else 0)) H) cB (fr cI) pInt1 := by
  rintro t v F H fx _ rfl z ez Q q
  cases ez
  exact .inr ⟨t, rfl, q _ F H (Grow.refl fx) rfl⟩
/- tuple(list), list(list), list(tuple), tuple(tuple) -/
theorem grow_new {F H : Hp} {p : Addr} {o : HO} (fx : FEx F H) (h : H p = none) (d : ¬ isF o) : Grow F H F (upd H p o) := Grow.obj fx h d
def pId {α : Type} (xs : α) : Option α := some xs
theorem c1_tupL {α : Type} {C : Cd α} {K : PySem.W.Frag} : C1Ok b (fun xs H Q => ∃ p ys, xs = [V.ref p] ∧ ((SqL K H p ys ∧ ∀ l, H l = none → Q (.ref l) (upd H l (.tup ys))) ∨ (SqT K H p ys ∧ Q (.ref p) H))) (cL C) (fr (cT C)) pId := by
  rintro xs v F H fx _ ⟨p, vs, rfl, h1, h2⟩ z ez Q q
  cases ez
  refine ⟨p, vs, rfl, .inl ⟨SqL.of (lst_of fx h1), fun l hl => ?_⟩⟩
  refine q _ (upd F l (.tup vs)) _ (Grow.put fx hl fun z => z) ⟨l, vs, rfl, upd_same, paired_mono h2 fun _ _ q => C.mono _ _ _ _ (sameNew (fx.emp hl)) q⟩
theorem c1_lstL {α : Type} {C : Cd α} {K : PySem.W.Frag} : C1Ok b (fun xs H Q => ∃ p ys, xs = [V.ref p] ∧ (SqL K H p ys ∨ SqT K H p ys) ∧ ∀ l, H l = none → Q (.ref l) (upd H l (.lst ys))) (cL C) (nw (mL C)) pId := by
  rintro xs v F H fx _ ⟨p, vs, rfl, h1, h2⟩ z ez Q q
  cases ez
  exact ⟨p, vs, rfl, .inl (SqL.of (lst_of fx h1)), fun l hl => q _ F _ (grow_new fx hl fun z => z) ⟨l, _, rfl, hl, upd_same, fx.emp hl, vs, rfl, h2⟩⟩
theorem c1_lstT {α : Type} {C : Cd α} {K : PySem.W.Frag} : C1Ok b (fun xs H Q => ∃ p ys, xs = [V.ref p] ∧ (SqL K H p ys ∨ SqT K H p ys) ∧ ∀ l, H l = none → Q (.ref l) (upd H l (.lst ys))) (cT C) (nw (mL C)) pId := by
  rintro xs v F H fx _ ⟨p, vs, rfl, h1, h2⟩ z ez Q q
  cases ez
  exact ⟨p, vs, rfl, .inr (SqT.of (tup_of fx h1)), fun l hl => q _ F _ (grow_new fx hl fun z => z) ⟨l, _, rfl, hl, upd_same, fx.emp hl, vs, rfl, h2⟩⟩
def pKeys {α : Type} (kvs : List (Int × α)) : Option (List Int) := some (kvs.map (·.1))
theorem keys_paired {α : Type} {C : Cd α} {F F' : Hp} : ∀ {kvs : List (Int × α)} {ks : List (Key × V)}, Paired (fun (p : Int × α) (q : Key × V) => q.1 = Sum.inl p.1 ∧ C.rep p.2 q.2 F) kvs ks →
    Paired (fun a v => cI.rep a v F') (kvs.map (·.1)) (ks.map fun kv => kV kv.1) ∧ ks.map (·.1) = (kvs.map (·.1)).map Sum.inl
  | _, _, .nil => ⟨.nil, rfl⟩
  | a :: _, b :: _, .cons h t => by
    obtain ⟨h1, h2⟩ := keys_paired (F' := F') t
    have h0 : b.1 = Sum.inl a.1 := h.1
    refine ⟨.cons ?_ h1, ?_⟩
    · show kV b.1 = V.int a.1
      rw [h0]; rfl
    · rw [List.map_cons, h2, h0]; rfl
theorem c1_lstD {α : Type} {C : Cd α} : C1Ok true rListD (cD C) (nw (mL cI)) pKeys := by
  rintro kvs v F H fx nl ⟨p, ks, rfl, h1, h2⟩ z ez Q q
  cases ez
  exact ⟨p, ks, rfl, fx.un (nl rfl) h1, fun l hl => q _ F _ (grow_new fx hl fun z => z) ⟨l, _, rfl, hl, upd_same, fx.emp hl, _, rfl, (keys_paired h2).1⟩⟩
/- dict(d) -/
theorem cr_dictD : CallR X (.type "dict") (fun xs H Q => ∃ a kvs, xs = [V.ref a] ∧ Rd H a (.dK kvs) ∧ ∀ p, H p = none → Q (.ref p) (upd H p (.dK kvs))) := by
  intro pins s σ H xs us Q I r h
  obtain ⟨a, kvs, rfl, ha, q⟩ := h
  rw [Vals.ref1 r]
  exact d_copyOf I ha fun p s' hp I' => ⟨.ref p, _, I', rfl, q p hp⟩
theorem c1_dictD {α : Type} {C : Cd α} : C1Ok b (fun xs H Q => ∃ a kvs, xs = [V.ref a] ∧ Rd H a (.dK kvs) ∧ ∀ p, H p = none → Q (.ref p) (upd H p (.dK kvs))) (cD C) (nw (mD C)) pId := by
  rintro kvs v F H fx _ ⟨p, ks, rfl, h1, h2⟩ z ez Q q
  cases ez
  exact ⟨p, ks, rfl, fx.rd h1, fun l hl => q _ F _ (grow_new fx hl fun z => z) ⟨l, _, rfl, hl, upd_same, fx.emp hl, ks, rfl, h2⟩⟩
/- ## sorting -/
def insL (k : Int) : List Int → List Int
  | [] => [k]
  | x :: r => if k ≤ x then k :: x :: r else x :: insL k r
def srt (xs : List Int) : List Int := xs.foldr insL []
def insS (k : Int) : List Int → List Int
  | [] => [k]
  | x :: r => if k < x then k :: x :: r else if k = x then x :: r else x :: insS k r
def srtS (xs : List Int) : List Int := xs.foldr insS []
theorem insL_perm (k : Int) : ∀ xs : List Int, (insL k xs).Perm (k :: xs)
  | [] => .refl _
  | x :: r => by
    unfold insL
    split
    · exact .refl _
    · exact ((insL_perm k r).cons x).trans (.swap _ _ _)
theorem insL_mem {k y : Int} {xs : List Int} : y ∈ insL k xs ↔ y = k ∨ y ∈ xs := by rw [(insL_perm k xs).mem_iff, List.mem_cons]
theorem insL_sorted (k : Int) : ∀ xs : List Int, xs.Pairwise (· ≤ ·) → (insL k xs).Pairwise (· ≤ ·)
  | [], _ => List.pairwise_singleton _ _
  | x :: r, h => by
    obtain ⟨h1, h2⟩ := List.pairwise_cons.mp h
    unfold insL
    split
    · rename_i c
      refine List.pairwise_cons.mpr ⟨fun y hy => ?_, h⟩
      rcases List.mem_cons.mp hy with e | e
      · rw [e]; exact c
      · exact Int.le_trans c (h1 y e)
    · rename_i c
      refine List.pairwise_cons.mpr ⟨fun y hy => ?_, insL_sorted k r h2⟩
      rcases insL_mem.mp hy with e | e
      · rw [e]; omega
      · exact h1 y e
theorem srt_perm : ∀ xs : List Int, (srt xs).Perm xs
  | [] => .refl _
  | x :: r => (insL_perm x (srt r)).trans ((srt_perm r).cons x)
theorem srt_sorted : ∀ xs : List Int, (srt xs).Pairwise (· ≤ ·)
  | [] => List.Pairwise.nil
  | x :: r => insL_sorted x _ (srt_sorted r)
theorem sorted_unique : ∀ {xs ys : List Int}, xs.Perm ys → xs.Pairwise (· ≤ ·) → ys.Pairwise (· ≤ ·) → xs = ys
  | [], ys, p, _, _ => (List.nil_perm.mp p).symm
  | x :: r, [], p, _, _ => absurd (List.perm_nil.mp p) (by simp)
  | x :: r, y :: t, p, h1, h2 => by
    obtain ⟨a1, a2⟩ := List.pairwise_cons.mp h1
    obtain ⟨b1, b2⟩ := List.pairwise_cons.mp h2
    have e : x = y := by
      have m1 : x ∈ y :: t := p.mem_iff.mp List.mem_cons_self
      have m2 : y ∈ x :: r := p.mem_iff.mpr List.mem_cons_self
      rcases List.mem_cons.mp m1 with e | e
      · exact e
      · rcases List.mem_cons.mp m2 with e2 | e2
        · exact e2.symm
        · have := b1 x e; have := a1 y e2; omega
    subst e
    rw [sorted_unique (List.Perm.cons_inv p) a2 b2]
def pSrt (xs : List Int) : Option (List Int) := if xs.length < 64 then some (srt xs) else none
theorem c1_sorted {K : PySem.W.Frag} : C1Ok b (rSorted K) (cL cI) (nw (mL cI)) pSrt := by
  rintro xs v F H fx _ ⟨p, vs, rfl, h1, h2⟩ z ez Q q
  have e := paired_int h2
  subst e
  unfold pSrt at ez
  by_cases c : xs.length < 64
  · rw [if_pos c] at ez
    cases ez
    refine ⟨p, xs, rfl, SqL.of (lst_of fx h1), c, fun ys l hp hs hl => ?_⟩
    have e : ys = srt xs := sorted_unique (hp.trans (srt_perm xs).symm) hs (srt_sorted xs)
    subst e
    exact q _ F _ (grow_new fx hl fun z => z) ⟨l, _, rfl, hl, upd_same, fx.emp hl, _, rfl, int_paired _⟩
  · rw [if_neg c] at ez; cases ez
theorem c1_sortedT {K : PySem.W.Frag} : True := trivial
def pSrtD {α : Type} (kvs : List (Int × α)) : Option (List Int) := if kvs.length < 64 then some (srt (kvs.map (·.1))) else none
theorem c1_sortedD {α : Type} {C : Cd α} : C1Ok b (fun xs H Q => ∃ (a : Addr) (kvs : List (Key × V)) (ks : List Int), xs = [V.ref a] ∧ Rd H a (.dK kvs) ∧ kvs.map (·.1) = ks.map Sum.inl ∧ ks.length < 64 ∧
    ∀ (ys : List Int) (p : Addr), ys.Perm ks → ys.Pairwise (· ≤ ·) → H p = none → Q (.ref p) (upd H p (.lst (ys.map V.int)))) (cD C) (nw (mL cI)) pSrtD := by
  rintro kvs v F H fx _ ⟨p, ks, rfl, h1, h2⟩ z ez Q q
  unfold pSrtD at ez
  by_cases c : kvs.length < 64
  · rw [if_pos c] at ez
    cases ez
    refine ⟨p, ks, kvs.map (·.1), rfl, fx.rd h1, (keys_paired (F' := F) h2).2, by rw [List.length_map]; exact c, fun ys l hp hs hl => ?_⟩
    have e : ys = srt (kvs.map (·.1)) := sorted_unique (hp.trans (srt_perm _).symm) hs (srt_sorted _)
    subst e
    exact q _ F _ (grow_new fx hl fun z => z) ⟨l, _, rfl, hl, upd_same, fx.emp hl, _, rfl, int_paired _⟩
  · rw [if_neg c] at ez; cases ez
/- sorted(set(xs)) -/
theorem insS_mem {k y : Int} : ∀ {xs : List Int}, y ∈ insS k xs ↔ y = k ∨ y ∈ xs
  | [] => by simp [insS]
  | x :: r => by
    unfold insS
    split
    · simp
    · split
      · rename_i c; subst c; simp
      · rw [List.mem_cons, insS_mem, List.mem_cons]
        constructor
        · rintro (h | h | h)
          · exact .inr (.inl h)
          · exact .inl h
          · exact .inr (.inr h)
        · rintro (h | h | h)
          · exact .inr (.inl h)
          · exact .inl h
          · exact .inr (.inr h)
theorem insS_sorted (k : Int) : ∀ xs : List Int, xs.Pairwise (· < ·) → (insS k xs).Pairwise (· < ·)
  | [], _ => List.pairwise_singleton _ _
  | x :: r, h => by
    obtain ⟨h1, h2⟩ := List.pairwise_cons.mp h
    unfold insS
    split
    · rename_i c
      refine List.pairwise_cons.mpr ⟨fun y hy => ?_, h⟩
      rcases List.mem_cons.mp hy with e | e
      · rw [e]; exact c
      · exact Int.lt_trans c (h1 y e)
    · split
      · exact h
      · rename_i c1 c2
        refine List.pairwise_cons.mpr ⟨fun y hy => ?_, insS_sorted k r h2⟩
        rcases insS_mem.mp hy with e | e
        · rw [e]; omega
        · exact h1 y e
theorem srtS_mem {y : Int} : ∀ {xs : List Int}, y ∈ srtS xs ↔ y ∈ xs
  | [] => Iff.rfl
  | x :: r => by show y ∈ insS x (srtS r) ↔ _; rw [insS_mem, srtS_mem, List.mem_cons]
theorem srtS_sorted : ∀ xs : List Int, (srtS xs).Pairwise (· < ·)
  | [] => List.Pairwise.nil
  | x :: r => insS_sorted x _ (srtS_sorted r)
theorem strict_unique : ∀ {xs ys : List Int}, (∀ y, y ∈ xs ↔ y ∈ ys) → xs.Pairwise (· < ·) → ys.Pairwise (· < ·) → xs = ys
  | [], [], _, _, _ => rfl
  | [], y :: t, p, _, _ => absurd ((p y).mpr List.mem_cons_self) (by simp)
  | x :: r, [], p, _, _ => absurd ((p x).mp List.mem_cons_self) (by simp)
  | x :: r, y :: t, p, h1, h2 => by
    obtain ⟨a1, a2⟩ := List.pairwise_cons.mp h1
    obtain ⟨b1, b2⟩ := List.pairwise_cons.mp h2
    have e : x = y := by
      rcases List.mem_cons.mp ((p x).mp List.mem_cons_self) with e | e
      · exact e
      · rcases List.mem_cons.mp ((p y).mpr List.mem_cons_self) with e2 | e2
        · exact e2.symm
        · have := b1 x e; have := a1 y e2; omega
    subst e
    rw [strict_unique (fun z => ?_) a2 b2]
    constructor
    · intro hz
      rcases List.mem_cons.mp ((p z).mp (List.mem_cons_of_mem _ hz)) with e | e
      · subst e; have := a1 z hz; omega
      · exact e
    · intro hz
      rcases List.mem_cons.mp ((p z).mpr (List.mem_cons_of_mem _ hz)) with e | e
      · subst e; have := b1 z hz; omega
      · exact e
theorem srtS_len : ∀ xs : List Int, (srtS xs).length ≤ xs.length := by
  have h : ∀ k (ys : List Int), (insS k ys).length ≤ ys.length + 1 := fun k ys => by
    induction ys with
    | nil => simp [insS]
    | cons y r ih =>
      unfold insS
      split
      · simp
      · split
        · simp
        · simp; omega
  intro xs
  induction xs with
  | nil => simp [srtS]
  | cons x r ih =>
    have := h x (srtS r)
    show (insS x (srtS r)).length ≤ _
    simp
    omega
/- a set on its way -/
def cSet (w : World) : Cd (List Int) where
  rep := fun xs v F => ∃ p c, v = .ref p ∧ F p = some (SetO w p (fun j => decide (j ∈ xs)) c) ∧ c ≤ xs.length
  mono := fun _ _ _ _ s ⟨p, c, h1, h2, h3⟩ => ⟨p, c, h1, s _ _ h2, h3⟩
def pSet (xs : List Int) : Option (List Int) := if xs.length ≤ 1000 then some xs else none
theorem c1_set {K : PySem.W.Frag} {w : World} : C1Ok b (rSetI K w) (cL cI) (fr (cSet w)) pSet := by
  rintro xs v F H fx _ ⟨p, vs, rfl, h1, h2⟩ z ez Q q
  have e := paired_int h2
  subst e
  unfold pSet at ez
  by_cases c : xs.length ≤ 1000
  · rw [if_pos c] at ez
    cases ez
    refine ⟨p, xs, rfl, SqL.of (lst_of fx h1), c, fun l n hl hn => ?_⟩
    exact q _ _ _ (Grow.put fx hl fun z => z) ⟨l, n, rfl, upd_same, hn⟩
  · rw [if_neg c] at ez; cases ez
def pSrtS (xs : List Int) : Option (List Int) := if xs.length < 64 then some (srtS xs) else none
theorem c1_sortedS {w : World} : C1Ok b (rSortedSet w) (cSet w) (nw (mL cI)) pSrtS := by
  rintro xs v F H fx _ ⟨p, c, rfl, h1, h2⟩ z ez Q q
  unfold pSrtS at ez
  by_cases hc : xs.length < 64
  · rw [if_pos hc] at ez
    cases ez
    refine ⟨p, _, c, rfl, fx.ne h1 fun z => z, by omega, fun ns l h3 h4 h5 hl => ?_⟩
    have e : ns = srtS xs := strict_unique (fun y => by rw [h4, srtS_mem, decide_eq_true_eq]) h3 (srtS_sorted xs)
    subst e
    exact q _ F _ (grow_new fx hl fun z => z) ⟨l, _, rfl, hl, upd_same, fx.emp hl, _, rfl, int_paired _⟩
  · rw [if_neg hc] at ez; cases ez
end
end Cw
/- CwExp4: walks, comprehensions, displays, changes. -/
namespace Cw
open PySem PySem.Spec L2
open PyProof.Rows hiding St
section
variable {X : Cx} {b : Bool} {Γ : List En}
/- ## what is walked -/
theorem ji_list {tg e : Expr} {α : Type} {C : Cd α} {m : Option (List α)} (h : JE X b e Γ (fr (cL C)) m) : JI X b tg e Γ C m := by
  intro F0 H0 σ F H A xs e1 R q
  refine wI_of (pi_list pe_w) ?_
  refine h F0 H0 σ F H A xs e1 _ fun v F' H' g r => ?_
  obtain ⟨p, vs, rfl, h1, h2⟩ := r
  refine ⟨p, rfl, ⟨vs, SqL.of (lst_of g.fx h1)⟩, q _ F' H' vs g ⟨_, _, walk_list (K := X.K) (a := p) (xs := vs), fun H'' fx => SqL.of (lst_of fx h1), fun i H'' x H3 _ _ y => y⟩ h2⟩
theorem ji_tup {tg e : Expr} {α : Type} {C : Cd α} {m : Option (List α)} (h : JE X b e Γ (fr (cT C)) m) : JI X b tg e Γ C m := by
  intro F0 H0 σ F H A xs e1 R q
  refine wI_of (pi_tup pe_w) ?_
  refine h F0 H0 σ F H A xs e1 _ fun v F' H' g r => ?_
  obtain ⟨p, vs, rfl, h1, h2⟩ := r
  refine ⟨p, rfl, ⟨vs, SqT.of (tup_of g.fx h1)⟩, q _ F' H' vs g ⟨_, _, walk_tup (K := X.K) (a := p) (xs := vs), fun H'' fx => SqT.of (tup_of fx h1), fun i H'' x H3 _ _ y => y⟩ h2⟩
/- the whole numbers from lo, n of them -/
def upF (lo : Int) (n : Nat) : List Int := (List.range n).map fun (i : Nat) => lo + (i : Int)
def pRng (n : Int) : Option (List Int) := if n ≤ 1000000 ∧ -1000000 ≤ n then some (upF 0 n.toNat) else none
def pRng2 (i j : Int) : Option (List Int) := if -1000000 ≤ i ∧ i ≤ 1000000 ∧ -1000000 ≤ j ∧ j ≤ 1000000 then some (upF i (j - i).toNat) else none
theorem itr_ok {lo : Int} {n : Nat} {F : Hp} : ItOk (Itr lo n) F ((upF lo n).map V.int) := by
  have hl : ((upF lo n).map V.int).length = n := by simp [upF]
  refine ⟨_, _, by rw [hl]; exact walk_range, fun _ _ => trivial, fun i H x H' _ hi y => ?_⟩
  obtain ⟨h1, h2⟩ := y
  refine ⟨h1, ?_⟩
  rw [hl] at hi
  rw [h2, upF, List.getElem?_map, List.getElem?_map, List.getElem?_range hi]
  rfl
theorem ji_rng {tg e : Expr} {p pos : Pos} {m : Option Int} (hg : Gl X "range") (hm : X.mg "range" = none) (h : JE X b e Γ (fr cI) m) (hs : starEach [e] X.env = (false, eval e X.env) :: starEach [] X.env := by rfl) (hs1 : starEach [e] X.env = [(false, eval e X.env)] := by rfl) :
    JI X b tg (.Call (.Name "range" p) [e] [] pos) Γ cI (m.bind pRng) := by
  intro F0 H0 σ F H A xs e1 R q
  obtain ⟨n, e2, e3⟩ := bind_some e1
  unfold pRng at e3
  by_cases c : n ≤ 1000000 ∧ -1000000 ≤ n
  · rw [if_pos c] at e3
    cases e3
    refine wI_of (pi_range1 hg hm (pa_cons pe_w pa_nil hs) hs1) ?_
    refine h F0 H0 σ F H A n e2 _ fun v F' H' g r => ?_
    cases (show v = .int n from r)
    exact ⟨n, rfl, by omega, by omega, q _ F' H' _ g itr_ok (int_paired _)⟩
  · rw [if_neg c] at e3; cases e3
theorem ji_rng2 {tg e e' : Expr} {p pos : Pos} {m n : Option Int} (hg : Gl X "range") (hm : X.mg "range" = none) (h : JE X b e Γ (fr cI) m) (h' : JE X b e' Γ (fr cI) n) (ha : starEach [e, e'] X.env = (false, eval e X.env) :: starEach [e'] X.env := by rfl) (hb : starEach [e'] X.env = (false, eval e' X.env) :: starEach [] X.env := by rfl)
    (hs1 : starEach [e, e'] X.env = [(false, eval e X.env), (false, eval e' X.env)] := by rfl) (hs2 : starEach [e'] X.env = [(false, eval e' X.env)] := by rfl) :
    JI X b tg (.Call (.Name "range" p) [e, e'] [] pos) Γ cI (bind2 m n pRng2) := by
  intro F0 H0 σ F H A xs e1 R q
  obtain ⟨i, j, e2, e3, e4⟩ := bind2_some e1
  unfold pRng2 at e4
  by_cases c : -1000000 ≤ i ∧ i ≤ 1000000 ∧ -1000000 ≤ j ∧ j ≤ 1000000
  · rw [if_pos c] at e4
    cases e4
    refine wI_of (pi_range2 hg hm (pa_cons pe_w (pa_cons pe_w pa_nil hb) ha) hs1 hs2) ?_
    refine h F0 H0 σ F H A i e2 _ fun v F1 H1 g1 r1 => ?_
    refine h' F0 H0 σ F1 H1 (A.grow g1) j e3 _ fun w F2 H2 g2 r2 => ?_
    cases (show v = .int i from r1)
    cases (show w = .int j from r2)
    exact ⟨i, j, rfl, ⟨by omega, by omega, by omega, by omega⟩, q _ F2 H2 _ (g1.trans g2) itr_ok (int_paired _)⟩
  · rw [if_neg c] at e4; cases e4
def sgns (x : Str) : List Str := x.cps.toList.map fun c => (⟨#[c]⟩ : Str)
theorem ji_str {tg e : Expr} {m : Option Str} (h : JE X b e Γ (fr cS) m) : JI X b tg e Γ cS (m.bind fun x => some (sgns x)) := by
  intro F0 H0 σ F H A xs e1 R q
  obtain ⟨x, e2, e3⟩ := bind_some e1
  cases e3
  refine wI_of (pi_str pe_w) ?_
  refine h F0 H0 σ F H A x e2 _ fun v F' H' g r => ?_
  cases (show v = .str x from r)
  have hl : ((sgns x).map V.str).length = x.cps.size := by simp [sgns]
  refine ⟨x, rfl, q _ F' H' ((sgns x).map V.str) g ⟨_, _, by rw [hl]; exact walk_str, fun _ _ => trivial, fun i H2 z H3 _ hi y => ?_⟩ (str_paired _)⟩
  obtain ⟨h1, c, h2, h3⟩ := y
  refine ⟨h1, ?_⟩
  rw [h3, sgns, List.getElem?_map, List.getElem?_map, Array.getElem?_toList, h2]
  rfl
/- list(range(n)) -/
theorem je_lstRng {e : Expr} {p pos p2 pos2 : Pos} {m : Option Int} (hc : X.calm = true) (hg : Gl X "list") (hm : X.mg "list" = none) (hg2 : Gl X "range") (hm2 : X.mg "range" = none) (h : JE X b e Γ (fr cI) m) (na : starEach [e] X.env = (false, eval e X.env) :: starEach [] X.env := by rfl)
    (na2 : starEach [.Call (.Name "range" p2) [e] [] pos2] X.env = (false, eval (.Call (.Name "range" p2) [e] [] pos2) X.env) :: starEach [] X.env := by rfl) :
    JE X b (.Call (.Name "list" p) [.Call (.Name "range" p2) [e] [] pos2] [] pos) Γ (nw (mL cI)) (m.bind fun n => if 0 ≤ n ∧ n ≤ 1000000 then some (upF 0 n.toNat) else none) := by
  intro F0 H0 σ F H A xs e1 Q q
  obtain ⟨n, e2, e3⟩ := bind_some e1
  by_cases c : 0 ≤ n ∧ n ≤ 1000000
  · rw [if_pos c] at e3
    cases e3
    refine wE_of (pe_listRg hc hg hm (prg_1 hg2 hm2 pe_w na) na2) ?_
    refine h F0 H0 σ F H A n e2 _ fun v F' H' g r => ?_
    cases (show v = .int n from r)
    refine ⟨n, rfl, RgOk.of_le (Int.le_refl 0) (by omega) (by omega) c.1, fun l hl => ?_⟩
    have e9 : rgV 0 n = (upF 0 n.toNat).map V.int := by
      unfold rgV upF
      rw [List.map_map, Int.sub_zero]
      rfl
    rw [e9]
    exact q _ F' _ (g.trans (grow_new g.fx hl fun z => z)) ⟨l, _, rfl, g.hs.free hl, upd_same, g.fx.emp hl, _, rfl, int_paired _⟩
  · rw [if_neg c] at e3; cases e3
/- ## displays -/
theorem je_tupN {es : List Expr} {x1 : Nat} {pos : Pos} {A : Type} {φs : A → List Fact} {m : Option A} {γ : Type} {C : Cd γ} {f : A → γ} (ha : JA X b es Γ φs m) (hC : ∀ a vs F, Args (φs a) vs F → ∀ p, F p = some (.tup vs) → C.rep (f a) (.ref p) F) (hl : ∀ a, (φs a).length ≤ 1000) :
    JE X b (.Tuple es x1 pos) Γ (fr C) (m.bind fun a => some (f a)) := by
  intro F0 H0 σ F H A z ez Q q
  obtain ⟨a, e1, e2⟩ := bind_some ez
  cases e2
  refine wE_of (pe_tup pa_w) ?_
  refine ha F0 H0 σ F H A a e1 _ fun vs F' H' g r => ⟨?_, fun p hp => ?_⟩
  · have := paired_len r
    have := hl a
    rw [← paired_len r]
    exact Nat.le_trans (hl a) (by decide)
  · have s : Same F' (upd F' p (.tup vs)) := sameNew (g.fx.emp hp)
    exact q _ _ _ (g.trans (Grow.put g.fx hp fun z => z)) (hC a vs _ (paired_mono r fun φ v h => φ.mono _ _ _ s h) p upd_same)
theorem je_tup2 {e1 e2 : Expr} {x1 : Nat} {pos : Pos} {α β : Type} {A : Cd α} {B : Cd β} {m1 : Option α} {m2 : Option β} (h1 : JE X b e1 Γ (fr A) m1) (h2 : JE X b e2 Γ (fr B) m2) (s1 : starEach [e1, e2] X.env = (false, eval e1 X.env) :: starEach [e2] X.env := by rfl) (s2 : starEach [e2] X.env = (false, eval e2 X.env) :: starEach [] X.env := by rfl) :
    JE X b (.Tuple [e1, e2] x1 pos) Γ (fr (c2 A B)) (bind2 m1 m2 fun x y => some (x, y)) := by
  refine je_eq (je_tupN (C := c2 A B) (f := fun a : α × β × Unit => (a.1, a.2.1)) (ja_cons h1 (ja_cons h2 ja_nil s2) s1) (fun a vs F r p hp => ?_) (fun _ => by show 2 ≤ 1000; decide)) ?_
  · cases r with
    | cons r1 r => cases r with
      | cons r2 r => cases r; exact ⟨p, _, _, rfl, hp, r1, r2⟩
  · cases m1 <;> cases m2 <;> rfl
theorem je_tup3 {e1 e2 e3 : Expr} {x1 : Nat} {pos : Pos} {α β γ : Type} {A : Cd α} {B : Cd β} {C : Cd γ} {m1 : Option α} {m2 : Option β} {m3 : Option γ} (h1 : JE X b e1 Γ (fr A) m1) (h2 : JE X b e2 Γ (fr B) m2) (h3 : JE X b e3 Γ (fr C) m3)
    (s1 : starEach [e1, e2, e3] X.env = (false, eval e1 X.env) :: starEach [e2, e3] X.env := by rfl) (s2 : starEach [e2, e3] X.env = (false, eval e2 X.env) :: starEach [e3] X.env := by rfl) (s3 : starEach [e3] X.env = (false, eval e3 X.env) :: starEach [] X.env := by rfl) :
    JE X b (.Tuple [e1, e2, e3] x1 pos) Γ (fr (c3 A B C)) (m1.bind fun x => m2.bind fun y => m3.bind fun z => some (x, y, z)) := by
  refine je_eq (je_tupN (C := c3 A B C) (f := fun a : α × β × γ × Unit => (a.1, a.2.1, a.2.2.1)) (ja_cons h1 (ja_cons h2 (ja_cons h3 ja_nil s3) s2) s1) (fun a vs F r p hp => ?_) (fun _ => by show 3 ≤ 1000; decide)) ?_
  · cases r with
    | cons r1 r => cases r with
      | cons r2 r => cases r with
        | cons r3 r => cases r; exact ⟨p, _, _, _, rfl, hp, r1, r2, r3⟩
  · cases m1 <;> cases m2 <;> cases m3 <;> rfl
/- items of one kind -/
def JL (X : Cx) (b : Bool) (es : List Expr) (Γ : List En) {α : Type} (C : Cd α) (m : Option (List α)) : Prop :=
  ∀ F0 H0 σ F H, Sat b F0 H0 Γ σ F H → ∀ a, m = some a → ∀ Q : List V → Hp → Prop, (∀ vs F' H', Grow F H F' H' → Paired (fun a v => C.rep a v F') a vs → Q vs H') → wA X es σ H Q
theorem jl_nil {α : Type} {C : Cd α} : JL X b [] Γ C (some []) := by
  intro F0 H0 σ F H A a e Q q
  cases e
  exact wA_of pa_nil (q [] F H (Grow.refl A.gr.fx) .nil)
theorem jl_cons {e : Expr} {es : List Expr} {α : Type} {C : Cd α} {m1 : Option α} {m2 : Option (List α)} (h1 : JE X b e Γ (fr C) m1) (h2 : JL X b es Γ C m2) (hs : starEach (e :: es) X.env = (false, eval e X.env) :: starEach es X.env := by rfl) :
    JL X b (e :: es) Γ C (bind2 m1 m2 fun a x => some (a :: x)) := by
  intro F0 H0 σ F H A a ea Q q
  obtain ⟨a1, a2, e1, e2, e3⟩ := bind2_some ea
  cases e3
  refine wA_of (pa_cons pe_w pa_w hs) ?_
  refine h1 F0 H0 σ F H A a1 e1 _ fun v F1 H1 g1 r1 => ?_
  refine h2 F0 H0 σ F1 H1 (A.grow g1) a2 e2 _ fun vs F2 H2 g2 r2 => ?_
  exact q (v :: vs) F2 H2 (g1.trans g2) (.cons (C.mono _ _ _ _ g2.fs r1) r2)
def pFew {α : Type} (xs : List α) : Option (List α) := if xs.length ≤ 1000 then some xs else none
theorem je_lst {es : List Expr} {pos : Pos} {α : Type} {C : Cd α} {m : Option (List α)} (ha : JL X b es Γ C m) : JE X b (.List es pos) Γ (nw (mL C)) (m.bind pFew) := by
  intro F0 H0 σ F H A z ez Q q
  obtain ⟨a, e1, e2⟩ := bind_some ez
  unfold pFew at e2
  by_cases c : a.length ≤ 1000
  · rw [if_pos c] at e2
    cases e2
    refine wE_of (pe_lst pa_w) ?_
    refine ha F0 H0 σ F H A _ e1 _ fun vs F' H' g r => ⟨?_, fun p hp => ?_⟩
    · rw [← paired_len r]; exact Nat.le_trans c (by decide)
    · exact q _ F' _ (g.trans (grow_new g.fx hp fun z => z)) ⟨p, _, rfl, g.hs.free hp, upd_same, g.fx.emp hp, vs, rfl, r⟩
  · rw [if_neg c] at e2; cases e2
theorem je_tupV {es : List Expr} {x1 : Nat} {pos : Pos} {α : Type} {C : Cd α} {m : Option (List α)} (ha : JL X b es Γ C m) : JE X b (.Tuple es x1 pos) Γ (fr (cT C)) (m.bind pFew) := by
  intro F0 H0 σ F H A z ez Q q
  obtain ⟨a, e1, e2⟩ := bind_some ez
  unfold pFew at e2
  by_cases c : a.length ≤ 1000
  · rw [if_pos c] at e2
    cases e2
    refine wE_of (pe_tup pa_w) ?_
    refine ha F0 H0 σ F H A _ e1 _ fun vs F' H' g r => ⟨?_, fun p hp => ?_⟩
    · rw [← paired_len r]; exact Nat.le_trans c (by decide)
    · exact q _ _ _ (g.trans (Grow.put g.fx hp fun z => z)) ⟨p, vs, rfl, upd_same, paired_mono r fun _ _ h => C.mono _ _ _ _ (sameNew (g.fx.emp hp)) h⟩
  · rw [if_neg c] at e2; cases e2
theorem je_dnew {pos : Pos} {α : Type} {C : Cd α} : JE X b (.Dict [] [] pos) Γ (nw (mD C)) (some []) := by
  intro F0 H0 σ F H A z ez Q q
  cases ez
  refine wE_of pe_dnewK fun p hp => ?_
  exact q _ F _ (grow_new A.gr.fx hp fun z => z) ⟨p, _, rfl, hp, upd_same, A.gr.fx.emp hp, [], rfl, .nil⟩
/- ## lists joined, cut -/
def pCat {α : Type} (xs ys : List α) : Option (List α) := if xs.length + ys.length ≤ 10000 then some (xs ++ ys) else none
theorem r2_cat {α : Type} {C : Cd α} : R2Ok rCat (cL C) (cL C) (nw (mL C)) pCat := by
  rintro xs ys vx vy F H fx ⟨p, vs, rfl, h1, h2⟩ ⟨p', ws, rfl, h3, h4⟩ z ez Q q
  unfold pCat at ez
  by_cases c : xs.length + ys.length ≤ 10000
  · rw [if_pos c] at ez
    cases ez
    refine ⟨p, p', vs, ws, rfl, rfl, lst_of fx h1, lst_of fx h3, ?_, fun l hl => ?_⟩
    · rw [← paired_len h2, ← paired_len h4]; exact Nat.le_trans c (by decide)
    · exact q _ F _ (grow_new fx hl fun z => z) ⟨l, _, rfl, hl, upd_same, fx.emp hl, _, rfl, paired_app h2 h4⟩
  · rw [if_neg c] at ez; cases ez
def cutG {α : Type} (xs : List α) (lo hi : Option Int) : List α := (xs.drop (HT.sIx xs.length 0 lo)).take (HT.sIx xs.length xs.length hi - HT.sIx xs.length 0 lo)
theorem paired_cut {α : Type} {G : α → V → Prop} {xs : List α} {vs : List V} (h : Paired G xs vs) (lo hi : Option Int) : Paired G (cutG xs lo hi) (cutV vs lo hi) := by
  unfold cutG cutV
  rw [← paired_len h]
  exact paired_take _ (paired_drop _ h)
def JP (X : Cx) (b : Bool) (e : Option Expr) (Γ : List En) (m : Option (Option Int)) : Prop :=
  ∃ t : TO, PO X e t ∧ ∀ F0 H0 σ F H, Sat b F0 H0 Γ σ F H → ∀ a, m = some a → ∀ Q : Option Int → Hp → Prop, (∀ F' H', Grow F H F' H' → Q a H') → t σ H Q
theorem jp_none : JP X b none Γ (some none) := ⟨_, po_none, fun F0 H0 σ F H A a e Q q => by cases e; exact q F H (Grow.refl A.gr.fx)⟩
theorem jp_some {e : Expr} {m : Option Int} (h : JE X b e Γ (fr cI) m) : JP X b (some e) Γ (m.bind pSome) := ⟨_, po_some pe_w, fun F0 H0 σ F H A a ea Q q => by
  obtain ⟨i, e1, e2⟩ := bind_some ea
  cases e2
  exact h F0 H0 σ F H A i e1 _ fun v F' H' g r => ⟨i, r, q F' H' g⟩⟩
theorem je_slL {e : Expr} {lo hi : Option Expr} {p2 pos : Pos} {α : Type} {C : Cd α} {m : Option (List α)} {ml mh : Option (Option Int)} (h : JE X b e Γ (fr (cL C)) m) (hl : JP X b lo Γ ml) (hh : JP X b hi Γ mh) :
    JE X b (.Subscript e (.Slice lo hi none p2) pos) Γ (nw (mL C)) (m.bind fun xs => ml.bind fun l => mh.bind fun u => some (cutG xs l u)) := by
  intro F0 H0 σ F H A z ez Q q
  obtain ⟨xs, e1, ez⟩ := bind_some ez
  obtain ⟨l, e2, ez⟩ := bind_some ez
  obtain ⟨u, e3, ez⟩ := bind_some ez
  cases ez
  obtain ⟨tl, pl, rl⟩ := hl
  obtain ⟨th, ph, rh⟩ := hh
  refine wE_of (pe_slice sl_list pe_w pl ph) ?_
  refine h F0 H0 σ F H A xs e1 _ fun v F1 H1 g1 r1 => ?_
  refine rl F0 H0 σ F1 H1 (A.grow g1) l e2 _ fun F2 H2 g2 => ?_
  refine rh F0 H0 σ F2 H2 ((A.grow g1).grow g2) u e3 _ fun F3 H3 g3 => ?_
  obtain ⟨p, vs, rfl, h1, h2⟩ := (cL C).mono _ _ _ _ (g2.fs.trans g3.fs) r1
  have g := (g1.trans g2).trans g3
  refine ⟨p, vs, rfl, SqL.of (lst_of g3.fx h1), fun l' hl' => ?_⟩
  exact q _ F3 _ (g.trans (grow_new g3.fx hl' fun z => z)) ⟨l', _, rfl, g.hs.free hl', upd_same, g3.fx.emp hl', _, rfl, paired_cut h2 l u⟩
/- ## comprehensions -/
def lcO {α β : Type} (t : α → Option Bool) (f : α → Option β) : List α → Option (List β)
  | [] => some []
  | x :: xs => (t x).bind fun c => if c = true then (f x).bind fun y => (lcO t f xs).bind fun ys => some (y :: ys) else lcO t f xs
def pMany {α : Type} (xs : List α) : Option (List α) := if xs.length ≤ 10000 then some xs else none
theorem lcO_len {α β : Type} {t : α → Option Bool} {f : α → Option β} : ∀ {xs : List α} {ys : List β}, lcO t f xs = some ys → ys.length ≤ xs.length
  | [], ys, h => by cases h; exact Nat.le_refl _
  | x :: xs, ys, h => by
    obtain ⟨c, h1, h2⟩ := bind_some (show (t x).bind (fun c => if c = true then (f x).bind fun y => (lcO t f xs).bind fun ys => some (y :: ys) else lcO t f xs) = some ys from h)
    cases c with
    | true =>
      rw [if_pos rfl] at h2
      obtain ⟨y, h3, h4⟩ := bind_some h2
      obtain ⟨zs, h5, h6⟩ := bind_some h4
      cases h6
      have := lcO_len h5
      simp only [List.length_cons]; omega
    | false =>
      rw [if_neg Bool.false_ne_true] at h2
      have := lcO_len h2
      simp only [List.length_cons]; omega
/- the tests of a clause -/
def wTs (X : Cx) (ifs : List Expr) : TT := fun σ H Q => ∃ t : TT, PTs X ifs t ∧ t σ H Q
theorem pts_w {X : Cx} {ifs : List Expr} : PTs X ifs (wTs X ifs) := ⟨fun pins s σ H Q I ⟨t, h1, h2⟩ => h1.run pins s σ H Q I h2⟩
def JTs (X : Cx) (b : Bool) (ifs : List Expr) (Γ : List En) (m : Option Bool) : Prop :=
  ∀ F0 H0 σ F H, Sat b F0 H0 Γ σ F H → ∀ a, m = some a → ∀ Q : Bool → Hp → Prop, (∀ F' H', Grow F H F' H' → Q a H') → wTs X ifs σ H Q
theorem jts_nil : JTs X b [] Γ (some true) := fun F0 H0 σ F H A a e Q q => ⟨_, pts_nil, by cases e; exact q F H (Grow.refl A.gr.fx)⟩
theorem jts_one {c : Expr} {m : Option Bool} (h : JT X b c Γ m) : JTs X b [c] Γ m := fun F0 H0 σ F H A a e Q q => ⟨_, pts_one pt_w, h F0 H0 σ F H A a e Q q⟩
theorem Sat.wipe {F0 H0 F H : Hp} {σ : St} {i : Nat} (A : Sat b F0 H0 Γ σ F H) : Sat b F0 H0 (Γ.set i .no) (σ.set i none) F H := by
  have back : ∀ (j : Nat) (e : En), e ≠ .no → (Γ.set i .no)[j]? = some e → i ≠ j ∧ Γ[j]? = some e := fun j e n h => by
    by_cases q : i = j
    · subst q
      by_cases hi : i < Γ.length
      · rw [List.getElem?_set_self hi] at h; exact absurd (Option.some.inj h).symm n
      · rw [List.getElem?_eq_none (by rw [List.length_set]; omega)] at h; cases h
    · rw [List.getElem?_set_ne q] at h; exact ⟨q, h⟩
  refine ⟨A.gr, A.nl, by rw [List.length_set, List.length_set]; exact A.len, fun j φ e => ?_, fun j ψ e => ?_, fun j k ψ ψ' l e1 e2 e3 e4 => ?_, fun j χ e => ?_, fun j k χ χ' e1 e2 => A.ow1 j k χ χ' (back j (.ow χ) (fun z => nomatch z) e1).2 (back k (.ow χ') (fun z => nomatch z) e2).2⟩
  · obtain ⟨n, e'⟩ := back j (.fz φ) (fun z => nomatch z) e
    rw [List.getElem?_set_ne n]
    exact A.fz j φ e'
  · obtain ⟨n, e'⟩ := back j (.mu ψ) (fun z => nomatch z) e
    rw [List.getElem?_set_ne n]
    exact A.mu j ψ e'
  · obtain ⟨n1, e1'⟩ := back j (.mu ψ) (fun z => nomatch z) e1
    obtain ⟨n2, e2'⟩ := back k (.mu ψ') (fun z => nomatch z) e2
    rw [List.getElem?_set_ne n1] at e3
    rw [List.getElem?_set_ne n2] at e4
    exact A.ne j k ψ ψ' l e1' e2' e3 e4
  · obtain ⟨n, e'⟩ := back j (.ow χ) (fun z => nomatch z) e
    obtain ⟨l, o, R, w⟩ := A.ow j χ e'
    refine ⟨l, o, R, w.to (by rw [List.getElem?_set_ne n]) (fun a u b1 b2 b3 _ => ⟨b1, b2, b3⟩) (Same.refl _) fun k ψ m e1 e2 => ?_⟩
    obtain ⟨n1, e1'⟩ := back k (.mu ψ) (fun z => nomatch z) e1
    rw [List.getElem?_set_ne n1] at e2
    exact .inl ⟨ψ, e1', e2⟩
/- in the blocks of a comprehension -/
def wEb (X : Cx) (scope : Scope) (e : Expr) : TE := fun σ H Q => ∀ s H1 C cl fp, wE (X.blk s H1 scope (compEnvC scope cl C X.env) fp) e σ H Q
def wTb (X : Cx) (scope : Scope) (ifs : List Expr) : TT := fun σ H Q => ∀ s H1 C cl fp, wTs (X.blk s H1 scope (compEnvC scope cl C X.env) fp) ifs σ H Q
theorem lc_lem {i : Nat} {tg elt iter : Expr} {ifs : List Expr} {scope : Scope} {α β : Type} {C : Cd α} {D : Cd β} {m : Option (List α)} {t : α → Option Bool} {f : α → Option β} (hit : JI X b tg iter Γ C m)
    (ht : ∀ s H1 C1 cl fp a, JTs (X.blk s H1 scope (compEnvC scope cl C1 X.env) fp) b ifs ((Γ.set i .no).set i (.fz (C.at a))) (t a))
    (he : ∀ s H1 C1 cl fp a, JE (X.blk s H1 scope (compEnvC scope cl C1 X.env) fp) b elt ((Γ.set i .no).set i (.fz (C.at a))) (fr D) (f a)) {F0 H0 : Hp} {σ : St} {F H : Hp} (A : Sat b F0 H0 Γ σ F H) {ys : List β} (ez : (m.bind fun xs => (lcO t f xs).bind pMany) = some ys)
    {Q : VK} (q : ∀ v F' H', Grow F H F' H' → (nw (mL D)).p ys v H F' H' → Q v H') : tLc (wI X tg iter) (gName i) (wTb X scope ifs) (wEb X scope elt) [i] σ H Q := by
  obtain ⟨xs, e1, e2⟩ := bind_some ez
  obtain ⟨zs, e3, e4⟩ := bind_some e2
  unfold pMany at e4
  by_cases c : zs.length ≤ 10000
  case neg => rw [if_neg c] at e4; cases e4
  rw [if_pos c] at e4
  cases e4
  refine hit F0 H0 σ F H A xs e1 _ fun J F1 H1 vs g it pr => ?_
  intro L hL
  obtain ⟨G, Y, w, hG, hY⟩ := it.ok
  have hl : xs.length = vs.length := paired_len pr
  refine lc_it w (fun n Hn => ∃ F2 acc av, Grow F1 H1 F2 Hn ∧ Hn L = some (.lst av) ∧ F2 L = none ∧ Paired (fun a v => D.rep a v F2) acc av ∧ ∃ r, lcO t f (xs.drop n) = some r ∧ acc ++ r = ys) ?_ ?_ ?_ ?_
  · exact ⟨F1, [], [], grow_new g.fx hL fun z => z, upd_same, g.fx.emp hL, .nil, ys, e3, rfl⟩
  · rintro n Hn _ ⟨F2, acc, av, g2, _⟩
    exact hG Hn fun a u e => g2.fx a u (g2.fs a u e)
  · rintro n v Hn H' hn ⟨F2, acc, av, g2, hD, hF, pa, r, er, ea⟩ y
    obtain ⟨rfl, hv⟩ := hY n Hn v H' (fun a u e => g2.fx a u (g2.fs a u e)) hn y
    obtain ⟨a, ha, ra⟩ := paired_ix pr hv
    have hd : xs.drop n = a :: xs.drop (n + 1) := by
      obtain ⟨q1, q2⟩ := List.getElem?_eq_some_iff.mp ha
      rw [List.drop_eq_getElem_cons q1, q2]
    rw [hd] at er
    obtain ⟨k, k1, k2⟩ := bind_some (show (t a).bind (fun c => if c = true then (f a).bind fun y => (lcO t f (xs.drop (n + 1))).bind fun ys => some (y :: ys) else lcO t f (xs.drop (n + 1))) = some r from er)
    have AA := ((A.grow (g.trans g2)).wipe (i := i)).put (i := i) (φ := C.at a) (C.mono _ _ _ _ g2.fs ra)
    refine ⟨?_, fun s5 H5 C5 cl fp => ?_⟩
    · show ((σ.set i none).set i (some v)).set i none = σ.set i none
      rw [List.set_set, List.set_set]
    refine ht s5 H5 C5 cl fp a F0 H0 _ F2 _ AA k k1 _ fun F3 H3 g3 => ?_
    have f3 : F3 L = none := g3.stays hF hD
    have d3 : H3 L = some (.lst av) := g3.hs _ _ hD
    cases k with
    | true =>
      rw [if_pos rfl] at k2 ⊢
      obtain ⟨z, k3, k4⟩ := bind_some k2
      obtain ⟨r', k5, k6⟩ := bind_some k4
      cases k6
      intro s6 H6 C6 cl6 fp6
      refine he s6 H6 C6 cl6 fp6 a F0 H0 _ F3 H3 (AA.grow g3) z k3 _ fun zv F4 H4 g4 r4 => ?_
      have f4 : F4 L = none := g4.stays f3 d3
      have d4 : H4 L = some (.lst av) := g4.hs _ _ d3
      refine ⟨av, d4, ?_, F4, acc ++ [z], av ++ [zv], ((g2.trans g3).trans g4).chg hL f4 (fun z => z), upd_same, f4, paired_app (paired_mono pa fun _ _ h => D.mono _ _ _ _ (g3.fs.trans g4.fs) h) (.cons r4 .nil), r', k5, ?_⟩
      · rw [← paired_len pa]
        have : acc.length ≤ ys.length := by rw [← ea]; simp
        exact Nat.lt_of_le_of_lt (Nat.le_trans this c) (by decide)
      · rw [← ea]; simp
    | false =>
      rw [if_neg Bool.false_ne_true] at k2 ⊢
      exact ⟨F3, acc, av, g2.trans g3, d3, f3, paired_mono pa fun _ _ h => D.mono _ _ _ _ g3.fs h, r, k2, ea⟩
  · rintro Hn ⟨F2, acc, av, g2, hD, hF, pa, r, er, ea⟩
    rw [← hl, List.drop_length] at er
    cases er
    rw [List.append_nil] at ea
    subst ea
    exact q _ F2 Hn (g.trans g2) ⟨L, _, rfl, g.hs.free hL, hD, hF, av, rfl, pa⟩
theorem je_lc {i : Nat} {x : Str} {px : Pos} {elt iter : Expr} {ifs : List Expr} {scope : Scope} {pos : Pos} {α β : Type} {C : Cd α} {D : Cd β} {m : Option (List α)} {t : α → Option Bool} {f : α → Option β} (hc : X.calm = true) (hN : X.N.Nodup)
    (hit : JI X b (.Name x px) iter Γ C m) (ok : BlkOk X.N X.env.scope scope [(x, i)]) (hg : ∀ s H1 C1 cl fp, PG (X.blk s H1 scope (compEnvC scope cl C1 X.env) fp) (.Name x px) (gName i))
    (ht : ∀ s H1 C1 cl fp a, JTs (X.blk s H1 scope (compEnvC scope cl C1 X.env) fp) b ifs ((Γ.set i .no).set i (.fz (C.at a))) (t a))
    (he : ∀ s H1 C1 cl fp a, JE (X.blk s H1 scope (compEnvC scope cl C1 X.env) fp) b elt ((Γ.set i .no).set i (.fz (C.at a))) (fr D) (f a)) (hs : ∀ x, foldedSetIterable iter X.env x = pure x := by intro _; rfl) :
    JE X b (.ListComp elt [⟨.Name x px, iter, ifs, 0⟩] scope pos) Γ (nw (mL D)) (m.bind fun xs => (lcO t f xs).bind pMany) := fun F0 H0 σ F H A ys ez Q q =>
  wE_of (pe_lc (own := [(x, i)]) hc hN pi_w ok hg (fun s H1 C1 cl fp => ⟨fun pins s' σ H Q I h => pts_w.run pins s' σ H Q I (h s H1 C1 cl fp)⟩) (fun s H1 C1 cl fp => ⟨fun pins s' σ H Q I h => pe_w.run pins s' σ H Q I (h s H1 C1 cl fp)⟩) hs) (lc_lem hit ht he A ez q)
/- y = [..] on one line -/
theorem jb_setLc {S R : Type} {Γs : S → List En} {k : Rk R} {rest : List Stmt} {i j : Nat} {x y : Str} {px py : Pos} {elt iter : Expr} {ifs : List Expr} {scope : Scope} {pos spos : Pos} {α β : Type} {C : Cd α} {D : Cd β} {m : Option (List α)} {t : α → Option Bool} {f : α → Option β} {g : List β → Option (Out S R)} (hc : X.calm = true) (hN : X.N.Nodup)
    (hy : X.N[j]? = some y) (hyl : X.env.scope.names.lookup y = some .local) (hsw : swapsWith (.ListComp elt [⟨.Name x px, iter, ifs, 0⟩] scope pos) (some (.Name y py)) spos.line X.env = pure true)
    (hit : JI X b (.Name x px) iter Γ C m) (ok : BlkOk X.N X.env.scope scope [(x, i)]) (hg : ∀ s H1 C1 cl fp, PG (X.blk s H1 scope (compEnvC scope cl C1 X.env) fp) (.Name x px) (gName i))
    (ht : ∀ s H1 C1 cl fp a, JTs (X.blk s H1 scope (compEnvC scope cl C1 X.env) fp) b ifs ((Γ.set i .no).set i (.fz (C.at a))) (t a))
    (he : ∀ s H1 C1 cl fp a, JE (X.blk s H1 scope (compEnvC scope cl C1 X.env) fp) b elt ((Γ.set i .no).set i (.fz (C.at a))) (fr D) (f a)) (hr : ∀ a, JB X b rest (Γ.set j (.mu (mL D a))) Γs k (g a)) (hs : ∀ x, foldedSetIterable iter X.env x = pure x := by intro _; rfl) :
    JB X b (.Assign [.Name y py] (.ListComp elt [⟨.Name x px, iter, ifs, 0⟩] scope pos) spos :: rest) Γ Γs k ((m.bind fun xs => (lcO t f xs).bind pMany).bind g) := by
  intro F0 H0 σ F H A o ho E P
  obtain ⟨ys, e1, e2⟩ := bind_some ho
  refine wS_of (pss_cons (ps_setLc (own := [(x, i)]) (tt := wTb X scope ifs) (te := wEb X scope elt) hc hN hy hyl hsw pi_w ok hg (fun s H1 C1 cl fp => ⟨fun pins s' σ H Q I h => pts_w.run pins s' σ H Q I (h s H1 C1 cl fp)⟩) (fun s H1 C1 cl fp => ⟨fun pins s' σ H Q I h => pe_w.run pins s' σ H Q I (h s H1 C1 cl fp)⟩) hs) pss_w) ?_
  show tLc (wI X (.Name x px) iter) (gName i) (wTb X scope ifs) (wEb X scope elt) [i] σ H (fun v H1 => wS X rest E (σ.set j (some v)) H1)
  refine lc_lem hit ht he A e1 fun v F' H' g r => ?_
  obtain ⟨l, ob, rfl, q1, q2, q3, q4⟩ := r
  exact hr ys F0 H0 _ F' H' (A.ownNew g q1 q2 q3 q4) o e2 E P
end
end Cw
/- CwExp5: changes of one's own lists and dicts, isinstance, methods. -/
namespace Cw
open PySem PySem.Spec L2
open PyProof.Rows hiding St
section
variable {X : Cx} {b : Bool} {Γ : List En} {S R : Type} {Γs : S → List En} {k : Rk R} {rest : List Stmt}
/- xs.append(e) -/
def pApp {α : Type} (xs : List α) (a : α) : Option (List α) := if xs.length < 1000000 then some (xs ++ [a]) else none
theorem jb_app {i : Nat} {x : Str} {p apos cpos pos : Pos} {e : Expr} {α : Type} {C : Cd α} {xs : List α} {m : Option α} {f : List α → Option (Out S R)} (hN : X.N[i]? = some x) (hv : Vis X.env.scope x) (hg : Γ[i]? = some (.mu (mL C xs))) (he : JE X b e Γ (fr C) m)
    (hr : ∀ ys, JB X b rest (Γ.set i (.mu (mL C ys))) Γs k (f ys)) (hbase : attributeBase (.Name x p) "append" X.env (eval (.Name x p) X.env) = eval (.Name x p) X.env := by rfl)
    (hfew : ((backTo cpos (starEach (e :: []) X.env)).all (fun x => !x.1) && (backToKw cpos (keywordEach [] X.env)).all (fun x => x.1.isSome) && decide ((e :: []).length + ([] : List Keyword).length + (if ([] : List Keyword).isEmpty then 0 else 1) < 30)) = true := by rfl)
    (hline : (apos.endLine == cpos.line) = true := by rfl) (hs : starEach [e] X.env = (false, eval e X.env) :: starEach [] X.env := by rfl) (hsw : swapsWith (.Call (.Attribute (.Name x p) "append" apos) [e] [] cpos) none pos.line X.env = pure false := by rfl)
    (hd : (x == ("__debug__" : Str)) = false := by decide) (hcd : (x == ("__classdict__" : Str)) = false := by decide) :
    JB X b (.Expr (.Call (.Attribute (.Name x p) "append" apos) [e] [] cpos) pos :: rest) Γ Γs k ((m.bind fun a => pApp xs a).bind f) := by
  intro F0 H0 σ F H A o ho D P
  obtain ⟨ys, e0, e2⟩ := bind_some ho
  obtain ⟨a, e1, e3⟩ := bind_some e0
  unfold pApp at e3
  by_cases c : xs.length < 1000000
  case neg => rw [if_neg c] at e3; cases e3
  rw [if_pos c] at e3
  cases e3
  refine wS_of (pss_cons (ps_expr (pe_bm PySem.F.plainAttrs_list PySem.F.slot_list_append PySem.F.type_list_append mt_append (pe_var hN hv hd hcd) (pa_cons pe_w pa_nil hs) hbase hfew hline hs rfl) hsw) pss_w) ?_
  obtain ⟨l, ob, h1, h2, h3, h4, vs, rfl, h6⟩ := A.mu i _ hg
  refine ⟨_, h1, .inl ⟨rfl, vs, SqL.of h2⟩, ?_⟩
  refine he F0 H0 σ F H A a e1 _ fun v F' H' g r => ?_
  have h2' : H' l = some (.lst vs) := g.hs _ _ h2
  refine ⟨l, vs, v, rfl, rfl, h2', by rw [← paired_len h6]; exact Nat.lt_trans c (by decide), ?_⟩
  exact hr _ F0 H0 σ F' _ ((A.grow g).chg hg h1 h2' (g.stays h3 h2) h4 ⟨_, rfl, paired_app (paired_mono h6 fun _ _ q => C.mono _ _ _ _ g.fs q) (.cons r .nil)⟩) o e2 D P
/- d[k] = v -/
def putD {α : Type} (kvs : List (Int × α)) (k : Int) (v : α) : List (Int × α) := if (kvs.any fun p => decide (p.1 = k)) = true then kvs.map (fun p => if p.1 = k then (p.1, v) else p) else kvs ++ [(k, v)]
def pPut {α : Type} (kvs : List (Int × α)) (k : Int) (v : α) : Option (List (Int × α)) := if kvs.length < 1000000 then some (putD kvs k v) else none
theorem paired_put {α : Type} {C : Cd α} {F : Hp} {kvs : List (Int × α)} {ks : List (Key × V)} (h : Paired (fun (p : Int × α) (q : Key × V) => q.1 = Sum.inl p.1 ∧ C.rep p.2 q.2 F) kvs ks) (k : Int) {a : α} {v : V} (r : C.rep a v F) :
    Paired (fun (p : Int × α) (q : Key × V) => q.1 = Sum.inl p.1 ∧ C.rep p.2 q.2 F) (putD kvs k a) (putK ks (Sum.inl k) v) := by
  have hany : (ks.any fun kv => decide (kv.1 = (Sum.inl k : Key))) = (kvs.any fun p => decide (p.1 = k)) := by
    induction h with
    | nil => rfl
    | @cons p q _ _ h1 _ ih =>
      rw [List.any_cons, List.any_cons, ih, h1.1]
      congr 1
      by_cases e : p.1 = k
      · simp [e]
      · have e' : ¬ (Sum.inl p.1 : Key) = Sum.inl k := fun z => e (Sum.inl.inj z)
        rw [decide_eq_false e, decide_eq_false e']
  unfold putD putK
  rw [hany]
  split
  · rename_i hh
    clear hany hh
    induction h with
    | nil => exact .nil
    | @cons p q _ _ h1 t ih =>
      rw [List.map_cons, List.map_cons]
      refine .cons ?_ ih
      by_cases e : p.1 = k
      · have e' : q.1 = (Sum.inl k : Key) := by rw [h1.1, e]
        rw [if_pos e, if_pos e']
        exact ⟨h1.1, r⟩
      · have e' : ¬ q.1 = (Sum.inl k : Key) := fun z => e (Sum.inl.inj (h1.1.symm.trans z))
        rw [if_neg e, if_neg e']
        exact h1
  · exact paired_app h (.cons ⟨rfl, r⟩ .nil)
theorem jb_put {i : Nat} {x : Str} {p pos pos' : Pos} {e kx : Expr} {α : Type} {C : Cd α} {kvs : List (Int × α)} {m : Option α} {mk : Option Int} {f : List (Int × α) → Option (Out S R)} (hu : X.A.units + 1 < cLine) (hN : X.N[i]? = some x) (hv : Vis X.env.scope x) (hg : Γ[i]? = some (.mu (mD C kvs)))
    (he : JE X b e Γ (fr C) m) (hk : JE X b kx Γ (fr cI) mk) (hr : ∀ ys, JB X b rest (Γ.set i (.mu (mD C ys))) Γs k (f ys)) (hs : swapsWith e (some (.Subscript (.Name x p) kx pos')) pos.line X.env = pure false := by rfl)
    (hd : (x == ("__debug__" : Str)) = false := by decide) (hcd : (x == ("__classdict__" : Str)) = false := by decide) :
    JB X b (.Assign [.Subscript (.Name x p) kx pos'] e pos :: rest) Γ Γs k ((m.bind fun a => mk.bind fun k => pPut kvs k a).bind f) := by
  intro F0 H0 σ F H A o ho D P
  obtain ⟨ys, e0, e2⟩ := bind_some ho
  obtain ⟨a, e1, e3⟩ := bind_some e0
  obtain ⟨kk, e4, e5⟩ := bind_some e3
  unfold pPut at e5
  by_cases c : kvs.length < 1000000
  case neg => rw [if_neg c] at e5; cases e5
  rw [if_pos c] at e5
  cases e5
  refine wS_of (pss_cons (ps_dput hu (pe_var hN hv hd hcd) pe_w pe_w hs) pss_w) ?_
  obtain ⟨l, ob, h1, h2, h3, h4, vs, rfl, h6⟩ := A.mu i _ hg
  refine he F0 H0 σ F H A a e1 _ fun v F1 H1 g1 r1 => ?_
  refine ⟨_, h1, ?_⟩
  refine hk F0 H0 σ F1 H1 (A.grow g1) kk e4 _ fun w F2 H2 g2 r2 => ?_
  cases (show w = .int kk from r2)
  have g := g1.trans g2
  have h2' : H2 l = some (.dK vs) := g.hs _ _ h2
  refine ⟨l, _, rfl, DPut.k (k := Sum.inl kk) h2' (by rw [← paired_len h6]; exact Nat.lt_trans c (by decide)), ?_⟩
  exact hr _ F0 H0 σ F2 _ ((A.grow g).chg hg h1 h2' (g.stays h3 h2) h4 ⟨_, rfl, paired_put (paired_mono h6 fun _ _ q => ⟨q.1, C.mono _ _ _ _ g.fs q.2⟩) kk (C.mono _ _ _ _ g2.fs r1)⟩) o e2 D P
/- xs[i] = v -/
def setI {α : Type} (xs : List α) (i : Int) (v : α) : Option (List α) := (ixN xs.length i).bind fun j => some (xs.set j v)
theorem paired_set {α β : Type} {G : α → β → Prop} {a : α} {v : β} (r : G a v) : ∀ {xs : List α} {vs : List β} (j : Nat), Paired G xs vs → Paired G (xs.set j a) (vs.set j v)
  | _, _, _, .nil => .nil
  | _, _, 0, .cons _ t => .cons r t
  | _, _, j + 1, .cons h t => .cons h (paired_set r j t)
theorem jb_setI {i : Nat} {x : Str} {p pos pos' : Pos} {e kx : Expr} {α : Type} {C : Cd α} {xs : List α} {m : Option α} {mk : Option Int} {f : List α → Option (Out S R)} (hN : X.N[i]? = some x) (hv : Vis X.env.scope x) (hg : Γ[i]? = some (.mu (mL C xs)))
    (he : JE X b e Γ (fr C) m) (hk : JE X b kx Γ (fr cI) mk) (hr : ∀ ys, JB X b rest (Γ.set i (.mu (mL C ys))) Γs k (f ys)) (hs : swapsWithSole [.Subscript (.Name x p) kx pos'] e pos.line X.env = pure false := by rfl) (hw : swappedStores [.Subscript (.Name x p) kx pos'] e X.env = pure none := by rfl)
    (h1' : (assignEach [.Subscript (.Name x p) kx pos'] X.env).map (·.2) = [assign (.Subscript (.Name x p) kx pos') X.env] := by rfl)
    (ha : ∀ v, assign (.Subscript (.Name x p) kx pos') X.env v = (do
      let ov ← holding [v] (eval (.Name x p) X.env)
      let iv ← holding [v, ov] (eval kx X.env)
      standAt pos'
      holding [v, ov, iv] (setItem ov iv v)
      release [v, ov, iv] []) := by intro _; rfl)
    (hd : (x == ("__debug__" : Str)) = false := by decide) (hcd : (x == ("__classdict__" : Str)) = false := by decide) :
    JB X b (.Assign [.Subscript (.Name x p) kx pos'] e pos :: rest) Γ Γs k ((m.bind fun a => mk.bind fun i => setI xs i a).bind f) := by
  intro F0 H0 σ F H A o ho D P
  obtain ⟨ys, e0, e2⟩ := bind_some ho
  obtain ⟨a, e1, e3⟩ := bind_some e0
  obtain ⟨kk, e4, e5⟩ := bind_some e3
  obtain ⟨j, e6, e7⟩ := bind_some e5
  cases e7
  refine wS_of (pss_cons (ps_asg pe_w (pg_sub (pe_var hN hv hd hcd) pe_w set_list ha) hs hw h1') pss_w) ?_
  obtain ⟨l, ob, h1, h2, h3, h4, vs, rfl, h6⟩ := A.mu i _ hg
  refine he F0 H0 σ F H A a e1 _ fun v F1 H1 g1 r1 => ?_
  refine ⟨_, h1, ?_⟩
  refine hk F0 H0 σ F1 H1 (A.grow g1) kk e4 _ fun w F2 H2 g2 r2 => ?_
  cases (show w = .int kk from r2)
  have g := g1.trans g2
  have h2' : H2 l = some (.lst vs) := g.hs _ _ h2
  refine ⟨l, vs, kk, j, rfl, rfl, h2', by rw [← paired_len h6]; exact e6, ?_⟩
  exact hr _ F0 H0 σ F2 _ ((A.grow g).chg hg h1 h2' (g.stays h3 h2) h4 ⟨_, rfl, paired_set (G := fun a v => C.rep a v F2) (C.mono _ _ _ _ g2.fs r1) j (paired_mono h6 fun _ _ q => C.mono _ _ _ _ g.fs q)⟩) o e2 D P
/- y = xs.pop() -/
theorem paired_last {α β : Type} {G : α → β → Prop} {xs : List α} {vs : List β} (h : Paired G xs vs) {a : α} (e : xs[xs.length - 1]? = some a) : ∃ v, vs[vs.length - 1]? = some v ∧ G a v := by
  rw [← paired_len h]; exact paired_fwd h e
theorem paired_dropLast {α β : Type} {G : α → β → Prop} {xs : List α} {vs : List β} (h : Paired G xs vs) : Paired G xs.dropLast vs.dropLast := by
  rw [List.dropLast_eq_take, List.dropLast_eq_take, ← paired_len h]; exact paired_take _ h
theorem jb_pop {i j : Nat} {x y : Str} {p py apos cpos pos : Pos} {α : Type} {C : Cd α} {xs : List α} {f : α → Option (Out S R)} (hNd : X.N.Nodup) (hN : X.N[i]? = some x) (hv : Vis X.env.scope x) (hg : Γ[i]? = some (.mu (mL C xs))) (hj : X.N[j]? = some y) (hy : Loc X.env.scope y) (hne : i ≠ j)
    (hr : ∀ a, JB X b rest ((Γ.set i (.mu (mL C xs.dropLast))).set j (.fz (C.at a))) Γs k (f a)) (hbase : attributeBase (.Name x p) "pop" X.env (eval (.Name x p) X.env) = eval (.Name x p) X.env := by rfl) (hline : (apos.endLine == cpos.line) = true := by rfl)
    (hs : swapsWith (.Call (.Attribute (.Name x p) "pop" apos) [] [] cpos) (some (.Name y py)) pos.line X.env = pure false := by rfl) (hf : X.fn y = true ∨ X.env.scope.names.lookup y = some .local := by first | exact .inl rfl | exact .inr rfl | assumption)
    (hd : (x == ("__debug__" : Str)) = false := by decide) (hcd : (x == ("__classdict__" : Str)) = false := by decide) :
    JB X b (.Assign [.Name y py] (.Call (.Attribute (.Name x p) "pop" apos) [] [] cpos) pos :: rest) Γ Γs k ((xs[xs.length - 1]?).bind f) := by
  intro F0 H0 σ F H A o ho D P
  obtain ⟨a, e1, e2⟩ := bind_some ho
  refine wS_of (pss_cons (ps_set hNd hj hy (pe_bm0 PySem.F.plainAttrs_list PySem.F.slot_list_pop PySem.F.type_list_pop mt_pop (pe_var hN hv hd hcd) hbase hline) hs hf) pss_w) ?_
  obtain ⟨l, ob, h1, h2, h3, h4, vs, rfl, h6⟩ := A.mu i _ hg
  obtain ⟨v, hv1, hv2⟩ := paired_last h6 e1
  refine ⟨_, h1, .inl ⟨rfl, vs, SqL.of h2⟩, l, vs, v, rfl, rfl, h2, hv1, ?_⟩
  refine hr a F0 H0 _ F _ ((A.chg (ψ' := mL C xs.dropLast) hg h1 h2 h3 h4 ⟨_, rfl, paired_dropLast h6⟩).put hv2) o e2 D P
/- isinstance -/
theorem je_isi {e : Expr} {x c : Str} {p pc pos : Pos} {α : Type} {C : Cd α} {m : Option α} {cls : String} {f : α → Bool} {ty : α → String} (hg : Gl X x) (hm : X.mg x = none) (hv : bootBuiltins x = some (.builtin "isinstance")) (hgc : Gl X c) (hmc : X.mg c = none) (hvc : bootBuiltins c = some (.type cls))
    (he : JE X b e Γ (fr C) m) (hty : ∀ a v F H, FEx F H → C.rep a v F → TyX X.K H v (.type (ty a))) (hk : ∀ a, kitB (ty a) cls = some (f a))
    (hn : x ≠ "__name__" := by decide) (hdb : (x == ("__debug__" : Str)) = false := by decide) (hnc : c ≠ "__name__" := by decide) (hdbc : (c == ("__debug__" : Str)) = false := by decide)
    (s1 : starEach [e, .Name c pc] X.env = (false, eval e X.env) :: starEach [.Name c pc] X.env := by rfl) (s2 : starEach [.Name c pc] X.env = (false, eval (.Name c pc) X.env) :: starEach [] X.env := by rfl)
    (hpl : (backTo pos (starEach [.Name c pc] X.env)).any (·.1) = false := by rfl) :
    JE X b (.Call (.Name x p) [e, .Name c pc] [] pos) Γ (fr cB) (m.bind fun a => some (f a)) := by
  intro F0 H0 σ F H A z ez Q q
  obtain ⟨a, e1, e2⟩ := bind_some ez
  cases e2
  refine wE_of (pe_callB call_isi hg hm hv (pa_cons pe_w (pa_cons (pe_bltn (v := .ty cls) hgc hmc hvc rfl hnc hdbc) pa_nil s2) s1) hn hdb (he := s1) (hpl := hpl)) ?_
  refine he F0 H0 σ F H A a e1 _ fun v F' H' g r => ?_
  exact ⟨v, .ty cls, .type (ty a), .type cls, f a, rfl, .ty cls, hty a v F' H' g.fx r, kit_ty (hk a), q _ F' H' g rfl⟩
theorem ty_I : ∀ (K : PySem.W.Frag) (a : Int) v F H, FEx F H → cI.rep a v F → TyX K H v (.type "int") := fun _ a v F H _ h => by cases (show v = .int a from h); exact .base (.int a)
theorem ty_B : ∀ (K : PySem.W.Frag) (a : Bool) v F H, FEx F H → cB.rep a v F → TyX K H v (.type "bool") := fun _ a v F H _ h => by cases (show v = .bl a from h); exact .base (.bl a)
theorem ty_S : ∀ (K : PySem.W.Frag) (a : Str) v F H, FEx F H → cS.rep a v F → TyX K H v (.type "str") := fun _ a v F H _ h => by cases (show v = .str a from h); exact .base (.str a)
theorem ty_O : ∀ (K : PySem.W.Frag) (a : Option Int) v F H, FEx F H → cO.rep a v F → TyX K H v (.type (if a.isSome then "int" else "NoneType")) := fun _ a v F H _ h => by
  cases (show v = vO a from h)
  cases a with
  | none => exact .base .non
  | some i => exact .base (.int i)
theorem ty_L {α : Type} {C : Cd α} : ∀ (K : PySem.W.Frag) (a : List α) v F H, FEx F H → (cL C).rep a v F → TyX K H v (.type "list") := fun _ a v F H fx ⟨p, vs, e, h1, _⟩ => by subst e; exact .base (.lst (lst_of fx h1))
theorem ty_T {α : Type} {C : Cd α} : ∀ (K : PySem.W.Frag) (a : List α) v F H, FEx F H → (cT C).rep a v F → TyX K H v (.type "tuple") := fun _ a v F H fx ⟨p, vs, e, h1, _⟩ => by subst e; exact .base (.tup (tup_of fx h1))
theorem ty_2 {α β : Type} {A : Cd α} {B : Cd β} : ∀ (K : PySem.W.Frag) (a : α × β) v F H, FEx F H → (c2 A B).rep a v F → TyX K H v (.type "tuple") := fun _ a v F H fx ⟨p, _, _, e, h1, _⟩ => by subst e; exact .base (.tup (tup_of fx h1))
theorem ty_3 {α β γ : Type} {A : Cd α} {B : Cd β} {C : Cd γ} : ∀ (K : PySem.W.Frag) (a : α × β × γ) v F H, FEx F H → (c3 A B C).rep a v F → TyX K H v (.type "tuple") := fun _ a v F H fx ⟨p, _, _, _, e, h1, _⟩ => by subst e; exact .base (.tup (tup_of fx h1))
theorem ty_D {α : Type} {C : Cd α} : ∀ (K : PySem.W.Frag) (a : List (Int × α)) v F H, FEx F H → (cD C).rep a v F → TyX K H v (.type "dict") := fun _ a v F H fx ⟨p, vs, e, h1, _⟩ => by
  subst e
  rcases fx _ _ h1 with q | ⟨_, o, q⟩
  · exact .base (.dK q)
  · exact .fDict q
/- xs.index(e) -/
def pIndex (xs : List Int) (a : Int) : Option Int := ((xs.findIdx? fun y => y == a)).map fun (j : Nat) => (j : Int)
theorem je_index {e o : Expr} {apos cpos : Pos} {m1 : Option (List Int)} {m : Option Int} (ho : JE X b o Γ (fr (cL cI)) m1) (he : JE X b e Γ (fr cI) m) (hbase : attributeBase o "index" X.env (eval o X.env) = eval o X.env := by rfl)
    (hfew : ((backTo cpos (starEach (e :: []) X.env)).all (fun x => !x.1) && (backToKw cpos (keywordEach [] X.env)).all (fun x => x.1.isSome) && decide ((e :: []).length + ([] : List Keyword).length + (if ([] : List Keyword).isEmpty then 0 else 1) < 30)) = true := by rfl)
    (hline : (apos.endLine == cpos.line) = true := by rfl) (hs : starEach [e] X.env = (false, eval e X.env) :: starEach [] X.env := by rfl) :
    JE X b (.Call (.Attribute o "index" apos) [e] [] cpos) Γ (fr cI) (bind2 m1 m pIndex) := by
  intro F0 H0 σ F H A z ez Q q
  obtain ⟨xs, a, e1, e2, e3⟩ := bind2_some ez
  refine wE_of (pe_bm PySem.F.plainAttrs_list PySem.F.slot_list_index PySem.F.type_list_index mt_index pe_w (pa_cons pe_w pa_nil hs) hbase hfew hline hs rfl) ?_
  refine ho F0 H0 σ F H A xs e1 _ fun v F1 H1 g1 r1 => ?_
  obtain ⟨p, vs, rfl, h1, h2⟩ := r1
  refine ⟨.inl ⟨rfl, vs, SqL.of (lst_of g1.fx h1)⟩, ?_⟩
  refine he F0 H0 σ F1 H1 (A.grow g1) a e2 _ fun w F2 H2 g2 r2 => ?_
  cases (show w = .int a from r2)
  have e4 := paired_int h2
  subst e4
  unfold pIndex at e3
  cases ej : xs.findIdx? fun y => y == a with
  | none => rw [ej] at e3; cases e3
  | some j =>
    rw [ej] at e3
    cases e3
    obtain ⟨hj, hp, hb⟩ := List.findIdx?_eq_some_iff_getElem.mp ej
    refine ⟨p, _, .int a, j, .int xs[j], rfl, rfl, SqL.of (lst_of g2.fx (g2.fs _ _ h1)), rfl, all_flat fI xs, by rw [List.getElem?_map, List.getElem?_eq_getElem hj]; rfl, hp, fun n z' hn hz => ?_, q _ F2 H2 (g1.trans g2) rfl⟩
    rw [List.getElem?_map, List.getElem?_eq_getElem (Nat.lt_trans hn hj)] at hz
    cases hz
    have := hb n hn
    show (xs[n] == a) = false
    simpa using this
/- d.get(k, x) -/
theorem je_get2 {d e f : Expr} {apos cpos : Pos} {α : Type} {C : Cd α} {m1 : Option (List (Int × α))} {m2 : Option Int} {m3 : Option α} (hu : X.A.units + 1 < cLine) (hd : JE X b d Γ (fr (cD C)) m1) (he : JE X b e Γ (fr cI) m2) (hf : JE X b f Γ (fr C) m3) (mm : M2 X d "get" apos e f cpos) :
    JE X b (.Call (.Attribute d "get" apos) [e, f] [] cpos) Γ (fr C) (m1.bind fun kvs => m2.bind fun k => m3.bind fun z => some ((lookD kvs k).getD z)) := by
  intro F0 H0 σ F H A z ez Q q
  obtain ⟨kvs, e1, ez⟩ := bind_some ez
  obtain ⟨kk, e2, ez⟩ := bind_some ez
  obtain ⟨df, e3, ez⟩ := bind_some ez
  cases ez
  refine wE_of (pe_dget2 hu pe_w pe_w pe_w mm) ?_
  refine hd F0 H0 σ F H A kvs e1 _ fun v F1 H1 g1 r1 => ?_
  obtain ⟨a, ks, rfl, h1, h2⟩ := r1
  refine ⟨a, rfl, .inl ⟨ks, g1.fx.rd h1⟩, ?_⟩
  refine he F0 H0 σ F1 H1 (A.grow g1) kk e2 _ fun w F2 H2 g2 r2 => ?_
  cases (show w = .int kk from r2)
  refine hf F0 H0 σ F2 H2 ((A.grow g1).grow g2) df e3 _ fun u F3 H3 g3 r3 => ?_
  have s := g2.fs.trans g3.fs
  have h2' := paired_mono h2 fun _ _ (q : _ ∧ _) => (⟨q.1, C.mono _ _ _ _ s q.2⟩ : _ ∧ C.rep _ _ F3)
  refine ⟨_, dget_of (C := C) (kvs := kvs) g3.fx (s _ _ h1) kk, q _ F3 H3 ((g1.trans g2).trans g3) ?_⟩
  have l := paired_look kk h2'
  show C.rep ((lookD kvs kk).getD df) _ F3
  cases el : lookD kvs kk with
  | none => rw [l.2 el]; exact r3
  | some y =>
    obtain ⟨y', q1, q2⟩ := l.1 y el
    rw [q1]; exact q2
theorem je_get1 {d e : Expr} {apos cpos : Pos} {m1 : Option (List (Int × Int))} {m2 : Option Int} (hu : X.A.units + 1 < cLine) (hd : JE X b d Γ (fr (cD cI)) m1) (he : JE X b e Γ (fr cI) m2) (mm : M1 X d "get" apos e cpos) :
    JE X b (.Call (.Attribute d "get" apos) [e] [] cpos) Γ (fr cO) (bind2 m1 m2 fun kvs k => some (lookD kvs k)) := by
  intro F0 H0 σ F H A z ez Q q
  obtain ⟨kvs, kk, e1, e2, ez⟩ := bind2_some ez
  cases ez
  refine wE_of (pe_dget1 hu pe_w pe_w mm) ?_
  refine hd F0 H0 σ F H A kvs e1 _ fun v F1 H1 g1 r1 => ?_
  obtain ⟨a, ks, rfl, h1, h2⟩ := r1
  refine ⟨a, rfl, .inl ⟨ks, g1.fx.rd h1⟩, ?_⟩
  refine he F0 H0 σ F1 H1 (A.grow g1) kk e2 _ fun w F2 H2 g2 r2 => ?_
  cases (show w = .int kk from r2)
  refine ⟨_, dget_of (C := cI) (kvs := kvs) g2.fx (g2.fs _ _ h1) kk, q _ F2 H2 (g1.trans g2) ?_⟩
  have l := paired_look kk h2
  show _ = vO (lookD kvs kk)
  cases el : lookD kvs kk with
  | none => rw [l.2 el]; rfl
  | some y =>
    obtain ⟨y', q1, q2⟩ := l.1 y el
    rw [q1]; exact q2
/- max(a, b), min(a, b) -/
theorem je_max2 {e f : Expr} {x : Str} {p pos : Pos} {m1 m2 : Option Int} (hc : X.calm = true) (hg : Gl X x) (hm : X.mg x = none) (hv : bootBuiltins x = some (.builtin "max")) (h1 : JE X b e Γ (fr cI) m1) (h2 : JE X b f Γ (fr cI) m2) (hn : x ≠ "__name__" := by decide) (hdb : (x == ("__debug__" : Str)) = false := by decide)
    (s1 : starEach [e, f] X.env = (false, eval e X.env) :: starEach [f] X.env := by rfl) (s2 : starEach [f] X.env = (false, eval f X.env) :: starEach [] X.env := by rfl) (hpl : (backTo pos (starEach [f] X.env)).any (·.1) = false := by rfl) :
    JE X b (.Call (.Name x p) [e, f] [] pos) Γ (fr cI) (bind2 m1 m2 fun i j => some (if j > i then j else i)) := by
  intro F0 H0 σ F H A z ez Q q
  obtain ⟨i, j, e1, e2, ez⟩ := bind2_some ez
  cases ez
  refine wE_of (pe_callB (call_max2 hc) hg hm hv (pa_cons pe_w (pa_cons pe_w pa_nil s2) s1) hn hdb (he := s1) (hpl := hpl)) ?_
  refine h1 F0 H0 σ F H A i e1 _ fun v F1 H1 g1 r1 => ?_
  refine h2 F0 H0 σ F1 H1 (A.grow g1) j e2 _ fun w F2 H2 g2 r2 => ?_
  cases (show v = .int i from r1)
  cases (show w = .int j from r2)
  exact ⟨i, j, rfl, q _ F2 H2 (g1.trans g2) rfl⟩
theorem je_min2 {e f : Expr} {x : Str} {p pos : Pos} {m1 m2 : Option Int} (hc : X.calm = true) (hg : Gl X x) (hm : X.mg x = none) (hv : bootBuiltins x = some (.builtin "min")) (h1 : JE X b e Γ (fr cI) m1) (h2 : JE X b f Γ (fr cI) m2) (hn : x ≠ "__name__" := by decide) (hdb : (x == ("__debug__" : Str)) = false := by decide)
    (s1 : starEach [e, f] X.env = (false, eval e X.env) :: starEach [f] X.env := by rfl) (s2 : starEach [f] X.env = (false, eval f X.env) :: starEach [] X.env := by rfl) (hpl : (backTo pos (starEach [f] X.env)).any (·.1) = false := by rfl) :
    JE X b (.Call (.Name x p) [e, f] [] pos) Γ (fr cI) (bind2 m1 m2 fun i j => some (if j < i then j else i)) := by
  intro F0 H0 σ F H A z ez Q q
  obtain ⟨i, j, e1, e2, ez⟩ := bind2_some ez
  cases ez
  refine wE_of (pe_callB (call_min2 hc) hg hm hv (pa_cons pe_w (pa_cons pe_w pa_nil s2) s1) hn hdb (he := s1) (hpl := hpl)) ?_
  refine h1 F0 H0 σ F H A i e1 _ fun v F1 H1 g1 r1 => ?_
  refine h2 F0 H0 σ F1 H1 (A.grow g1) j e2 _ fun w F2 H2 g2 r2 => ?_
  cases (show v = .int i from r1)
  cases (show w = .int j from r2)
  exact ⟨i, j, rfl, q _ F2 H2 (g1.trans g2) rfl⟩
end
end Cw
/- CwExp6: calls by one hypothesis; small things. -/
namespace Cw
open PySem PySem.Spec L2
open PyProof.Rows hiding St
def pCons {α β : Type} (a : α) (x : β) : Option (α × β) := some (a, x)
/- a def that stands and keeps its promise -/
def Cal (P : Program) (w : World) (K : PySem.W.Frag) (mg : Str → Option Value) (base : Heap) (k : Nat) (x : Str) (ps : List Str) (sp : Sp) : Prop :=
  ∃ (f : Addr) (fd : FuncData), FnOk P w K mg base CX0 k f fd ps sp ∧ mg x = some (.ref f) ∧ PySem.W.keepIn K (.ref f) = true ∧ Binds K fd ps []
section
variable {X : Cx} {b : Bool} {Γ : List En}
theorem je_callC {x : Str} {p pos : Pos} {e : Expr} {es : List Expr} {ps : List Str} {j n : Nat} {A R : Type} {b' : Bool} {φs : A → List Fact} {m : A → Option R} {k : Rk R} {ma : Option A}
    {φs' : A → List Fact} (c : Cal X.prog X.w X.K X.mg X.base j x ps (SpG b' φs m k)) (hr : Room n X.A) (hg : Gl X x) (ha : JA X b (e :: es) Γ φs' ma) (hbb : j ≤ n ∧ (b' = true → b = true)) (hφ : φs' = φs := by rfl) (hdb : (x == ("__debug__" : Str)) = false := by decide)
    (he : starEach (e :: es) X.env = (false, eval e X.env) :: starEach es X.env := by rfl) (hpl : (backTo pos (starEach es X.env)).any (·.1) = false := by rfl) : JE X b (.Call (.Name x p) (e :: es) [] pos) Γ k (ma.bind m) := by
  obtain ⟨f, fd, Fn, h1, h2, h3⟩ := c
  subst hφ
  exact je_call Fn (hr.mono hbb.1) hg h1 h2 h3 ha hbb.2 hdb he hpl
theorem c1_len2 {α β : Type} {A : Cd α} {B : Cd β} {K : PySem.W.Frag} : C1Ok b (fun xs H Q => ∃ p ys, xs = [V.ref p] ∧ (SqL K H p ys ∨ SqT K H p ys) ∧ Q (.int ys.length) H) (c2 A B) (fr cI) (fun _ => some 2) := by
  rintro a v F H fx _ ⟨p, u, w, rfl, h1, h2⟩ z ez Q q
  cases ez
  exact ⟨p, [u, w], rfl, .inr (SqT.of (tup_of fx h1)), q _ F H (Grow.refl fx) rfl⟩
theorem c1_len3 {α β γ : Type} {A : Cd α} {B : Cd β} {C : Cd γ} {K : PySem.W.Frag} : C1Ok b (fun xs H Q => ∃ p ys, xs = [V.ref p] ∧ (SqL K H p ys ∨ SqT K H p ys) ∧ Q (.int ys.length) H) (c3 A B C) (fr cI) (fun _ => some 3) := by
  rintro a v F H fx _ ⟨p, u, w, y, rfl, h1, h2⟩ z ez Q q
  cases ez
  exact ⟨p, [u, w, y], rfl, .inr (SqT.of (tup_of fx h1)), q _ F H (Grow.refl fx) rfl⟩
end
end Cw
/- CwExp7: comprehensions over a dict. -/
namespace Cw
open PySem PySem.Spec L2
open PyProof.Rows hiding St
section
variable {X : Cx} {b : Bool} {Γ : List En}
theorem je_lcD {i : Nat} {x : Str} {px : Pos} {elt iter : Expr} {ifs : List Expr} {scope : Scope} {pos : Pos} {α β : Type} {C : Cd α} {D : Cd β} {cI : Cd Int} {m : Option (List (Int × α))} {t : Int → Option Bool} {f : Int → Option β}
    (hI : ∀ i F, cI.rep i (.int i) F) (hc : X.calm = true) (hN : X.N.Nodup)
    (hit : JV X iter Γ (cD C) m) (ok : BlkOk X.N X.env.scope scope [(x, i)]) (hg : ∀ s H1 C1 cl fp, PG (X.blk s H1 scope (compEnvC scope cl C1 X.env) fp) (.Name x px) (gName i))
    (ht : ∀ s H1 C1 cl fp a, JTs (X.blk s H1 scope (compEnvC scope cl C1 X.env) fp) false ifs ((Γ.set i .no).set i (.fz (cI.at a))) (t a))
    (he : ∀ s H1 C1 cl fp a, JE (X.blk s H1 scope (compEnvC scope cl C1 X.env) fp) false elt ((Γ.set i .no).set i (.fz (cI.at a))) (fr D) (f a)) (hs : ∀ x, foldedSetIterable iter X.env x = pure x := by intro _; rfl) :
    JE X true (.ListComp elt [⟨.Name x px, iter, ifs, 0⟩] scope pos) Γ (nw (mL D)) (m.bind fun kvs => (lcO t f (kvs.map (·.1))).bind pMany) := by
  intro F0 H0 σ F H A ys ez Q q
  obtain ⟨kvs, e1, e2⟩ := bind_some ez
  obtain ⟨zs, e3, e4⟩ := bind_some e2
  unfold pMany at e4
  by_cases c : zs.length ≤ 10000
  case neg => rw [if_neg c] at e4; cases e4
  rw [if_pos c] at e4
  cases e4
  refine wE_of (pe_lock (pe_lc (own := [(x, i)]) (tt := wTb X scope ifs) (te := wEb X scope elt) hc hN (pi_keys pe_w) ok hg (fun s H1 C1 cl fp => ⟨fun pins s' σ H Q I h => pts_w.run pins s' σ H Q I (h s H1 C1 cl fp)⟩) (fun s H1 C1 cl fp => ⟨fun pins s' σ H Q I h => pe_w.run pins s' σ H Q I (h s H1 C1 cl fp)⟩) hs)) ?_
  obtain ⟨v, ⟨d, ks, rfl, hF, pr⟩, run⟩ := hit true F0 H0 σ F H A kvs e1
  have di : isD (.dK ks) := trivial
  have hH : H d = some (.dK ks) := A.gr.fx.un (A.nl rfl) hF
  refine ⟨d, .dK ks, hH, trivial, fun od => ?_⟩
  have A1 := A.lock (od := od) hF di hH
  have hl : kvs.length = ks.length := Paired.length pr
  refine run _ A1.gr.fx _ ⟨d, od, rfl, .inl ⟨ks, upd_same, ?_⟩⟩
  intro L hL
  have hLd : L ≠ d := fun z => by rw [z, upd_same] at hL; cases hL
  have hHL : H L = none := by rw [upd_ne hLd] at hL; exact hL
  have g0 : Grow F (upd H d (.frz od (.dK ks))) F (upd H d (.frz od (.dK ks))) := Grow.refl A1.gr.fx
  refine lc_it walk_keys (fun n Hn => ∃ F2 acc av, Grow F (upd H d (.frz od (.dK ks))) F2 Hn ∧ Hn L = some (.lst av) ∧ F2 L = none ∧ Paired (fun a v => D.rep a v F2) acc av ∧ ∃ r, lcO t f ((kvs.map (·.1)).drop n) = some r ∧ acc ++ r = ys) ?_ ?_ ?_ ?_
  · exact ⟨F, [], [], grow_new A1.gr.fx hL fun z => z, upd_same, A1.gr.fx.emp hL, .nil, ys, e3, rfl⟩
  · rintro n Hn hn ⟨F2, acc, av, g2, _⟩
    exact g2.hs _ _ upd_same
  · rintro n v Hn H' hn ⟨F2, acc, av, g2, hD, hF2, pa, r, er, ea⟩ y
    obtain ⟨rfl, key, w, hk, rfl⟩ := y
    obtain ⟨a, ha, ra, _⟩ := paired_ix pr hk
    have hd : (kvs.map (·.1)).drop n = a.1 :: (kvs.map (·.1)).drop (n + 1) := by
      have hm : (kvs.map (·.1))[n]? = some a.1 := by rw [List.getElem?_map, ha]; rfl
      obtain ⟨q1, q2⟩ := List.getElem?_eq_some_iff.mp hm
      rw [List.drop_eq_getElem_cons q1, q2]
    rw [hd] at er
    obtain ⟨k, k1, k2⟩ := bind_some (show (t a.1).bind (fun c => if c = true then (f a.1).bind fun y => (lcO t f ((kvs.map (·.1)).drop (n + 1))).bind fun ys => some (y :: ys) else lcO t f ((kvs.map (·.1)).drop (n + 1))) = some r from er)
    have rk : (cI.at a.1).p (kV key) F2 := by
      rw [show key = Sum.inl a.1 from ra]
      exact hI _ _
    have AA := ((A1.grow g2).wipe (i := i)).put (i := i) (φ := cI.at a.1) rk
    refine ⟨?_, fun s5 H5 C5 cl fp => ?_⟩
    · show ((σ.set i none).set i (some (kV key))).set i none = σ.set i none
      rw [List.set_set, List.set_set]
    refine ht s5 H5 C5 cl fp a.1 F _ _ F2 _ AA k k1 _ fun F3 H3 g3 => ?_
    have f3 : F3 L = none := g3.stays hF2 hD
    have d3 : H3 L = some (.lst av) := g3.hs _ _ hD
    cases k with
    | true =>
      rw [if_pos rfl] at k2 ⊢
      obtain ⟨z, k3, k4⟩ := bind_some k2
      obtain ⟨r', k5, k6⟩ := bind_some k4
      cases k6
      intro s6 H6 C6 cl6 fp6
      refine he s6 H6 C6 cl6 fp6 a.1 F _ _ F3 H3 (AA.grow g3) z k3 _ fun zv F4 H4 g4 r4 => ?_
      have f4 : F4 L = none := g4.stays f3 d3
      have d4 : H4 L = some (.lst av) := g4.hs _ _ d3
      refine ⟨av, d4, ?_, F4, acc ++ [z], av ++ [zv], ((g2.trans g3).trans g4).chg hL f4 (fun z => z), upd_same, f4, paired_app (paired_mono pa fun _ _ h => D.mono _ _ _ _ (g3.fs.trans g4.fs) h) (.cons r4 .nil), r', k5, ?_⟩
      · rw [← paired_len pa]
        have : acc.length ≤ ys.length := by rw [← ea]; simp
        exact Nat.lt_of_le_of_lt (Nat.le_trans this c) (by decide)
      · rw [← ea]; simp
    | false =>
      rw [if_neg Bool.false_ne_true] at k2 ⊢
      exact ⟨F3, acc, av, g2.trans g3, d3, f3, paired_mono pa fun _ _ h => D.mono _ _ _ _ g3.fs h, r, k2, ea⟩
  · rintro Hn ⟨F2, acc, av, g2, hD, hF2, pa, r, er, ea⟩
    rw [← hl, ← List.length_map (f := fun x : Int × α => x.1), List.drop_length] at er
    cases er
    rw [List.append_nil] at ea
    subst ea
    exact ⟨g2.hs _ _ upd_same, q _ F2 _ ((Grow.refl A.gr.fx).unlock hF di hH g2) ⟨L, _, rfl, hHL, by rw [upd_ne hLd]; exact hD, hF2, av, rfl, pa⟩⟩
/- y = [..] on one line, with looks at one's own objects -/
def JLc (X : Cx) (b : Bool) (i : Nat) (x : Str) (px : Pos) (elt iter : Expr) (ifs : List Expr) (scope : Scope) (Γ : List En) {β : Type} (D : Cd β) (m : Option (List β)) : Prop :=
  ∀ F0 H0 σ F H, Sat b F0 H0 Γ σ F H → ∀ ys, m = some ys → ∀ Q : VK, (∀ v F' H', Grow F H F' H' → (nw (mL D)).p ys v H F' H' → Q v H') → tLc (wI X (.Name x px) iter) (gName i) (wTb X scope ifs) (wEb X scope elt) [i] σ H Q
theorem jlc_mk {i : Nat} {x : Str} {px : Pos} {elt iter : Expr} {ifs : List Expr} {scope : Scope} {α β : Type} {C : Cd α} {D : Cd β} {m : Option (List α)} {t : α → Option Bool} {f : α → Option β} (hit : JI X b (.Name x px) iter Γ C m)
    (ht : ∀ s H1 C1 cl fp a, JTs (X.blk s H1 scope (compEnvC scope cl C1 X.env) fp) b ifs ((Γ.set i .no).set i (.fz (C.at a))) (t a))
    (he : ∀ s H1 C1 cl fp a, JE (X.blk s H1 scope (compEnvC scope cl C1 X.env) fp) b elt ((Γ.set i .no).set i (.fz (C.at a))) (fr D) (f a)) : JLc X b i x px elt iter ifs scope Γ D (m.bind fun xs => (lcO t f xs).bind pMany) :=
  fun _ _ _ _ _ A _ ez _ q => lc_lem hit ht he A ez q
theorem jlc_peek (n : Nat) {i : Nat} {x : Str} {px : Pos} {elt iter : Expr} {ifs : List Expr} {scope : Scope} {β : Type} {D : Cd β} {m : Option (List β)} {ψ : MFact} {φ : Fact} (hg : Γ[n]? = some (.mu ψ)) (hq : ∀ l o F, F l = none → ψ.p o F → φ.p (.ref l) (upd F l o)) (hk : (nw (mL D)).Indep)
    (h : JLc X b i x px elt iter ifs scope (Γ.set n (.fz φ)) D m) : JLc X b i x px elt iter ifs scope Γ D m := by
  intro F0 H0 σ F H A a ea Q q
  obtain ⟨l, o, _, hl, hf, _, A'⟩ := A.frz hg hq
  refine h F0 H0 σ _ H A' a ea Q fun v F' H' g r => ?_
  refine q v F H' ⟨Same.refl _, A.gr.fx.up g.hs, g.hs, fun _ h => .inl h, g.nf⟩ (hk _ _ _ _ _ _ ((sameNew hf).trans g.fs) r)
theorem jb_setLcJ {S R : Type} {Γs : S → List En} {k : Rk R} {rest : List Stmt} {i j : Nat} {x y : Str} {px py : Pos} {elt iter : Expr} {ifs : List Expr} {scope : Scope} {pos spos : Pos} {β : Type} {D : Cd β} {m : Option (List β)} {g : List β → Option (Out S R)} (hc : X.calm = true) (hN : X.N.Nodup)
    (hy : X.N[j]? = some y) (hyl : X.env.scope.names.lookup y = some .local) (hsw : swapsWith (.ListComp elt [⟨.Name x px, iter, ifs, 0⟩] scope pos) (some (.Name y py)) spos.line X.env = pure true)
    (ok : BlkOk X.N X.env.scope scope [(x, i)]) (hg : ∀ s H1 C1 cl fp, PG (X.blk s H1 scope (compEnvC scope cl C1 X.env) fp) (.Name x px) (gName i))
    (hl : JLc X b i x px elt iter ifs scope Γ D m) (hr : ∀ a, JB X b rest (Γ.set j (.mu (mL D a))) Γs k (g a)) (hs : ∀ x, foldedSetIterable iter X.env x = pure x := by intro _; rfl) :
    JB X b (.Assign [.Name y py] (.ListComp elt [⟨.Name x px, iter, ifs, 0⟩] scope pos) spos :: rest) Γ Γs k (m.bind g) := by
  intro F0 H0 σ F H A o ho E P
  obtain ⟨ys, e1, e2⟩ := bind_some ho
  refine wS_of (pss_cons (ps_setLc (own := [(x, i)]) (tt := wTb X scope ifs) (te := wEb X scope elt) hc hN hy hyl hsw pi_w ok hg (fun s H1 C1 cl fp => ⟨fun pins s' σ H Q I h => pts_w.run pins s' σ H Q I (h s H1 C1 cl fp)⟩) (fun s H1 C1 cl fp => ⟨fun pins s' σ H Q I h => pe_w.run pins s' σ H Q I (h s H1 C1 cl fp)⟩) hs) pss_w) ?_
  show tLc (wI X (.Name x px) iter) (gName i) (wTb X scope ifs) (wEb X scope elt) [i] σ H (fun v H1 => wS X rest E (σ.set j (some v)) H1)
  refine hl F0 H0 σ F H A ys e1 _ fun v F' H' g r => ?_
  obtain ⟨l, ob, rfl, q1, q2, q3, q4⟩ := r
  exact hr ys F0 H0 _ F' H' (A.ownNew g q1 q2 q3 q4) o e2 E P
/- a def of which nothing is promised -/
theorem fn_none {P : Program} {w : World} {K : PySem.W.Frag} {mg : Str → Option Value} {base : Heap} {j : Nat} {f : Addr} {fd : FuncData} {ps : List Str} {A R : Type} {b : Bool} {φs : A → List Fact} {m : A → Option R} {k : Rk R} (hm : ∀ x, m x = none) : FnOk P w K mg base CX0 j f fd ps (SpG b φs m k) :=
  ⟨fun vs H Q E h => (by obtain ⟨x, F, r, _, _, _, h, _⟩ := h; rw [hm x] at h; cases h), fun A outer s H args us vs Q E _ _ _ _ h => (by obtain ⟨x, F, r, _, _, _, h, _⟩ := h; rw [hm x] at h; cases h)⟩
/- xs.remove(e) -/
def pRem (xs : List Int) (a : Int) : Option (List Int) := (xs.findIdx? fun y => y == a).map fun j => xs.eraseIdx j
theorem jb_rem {S R : Type} {Γs : S → List En} {k : Rk R} {rest : List Stmt} {i : Nat} {x : Str} {p apos cpos pos : Pos} {e : Expr} {xs : List Int} {m : Option Int} {f : List Int → Option (Out S R)} (hN : X.N[i]? = some x) (hv : Vis X.env.scope x) (hg : Γ[i]? = some (.mu (mL cI xs))) (he : JE X b e Γ (fr cI) m)
    (hr : ∀ ys, JB X b rest (Γ.set i (.mu (mL cI ys))) Γs k (f ys)) (hbase : attributeBase (.Name x p) "remove" X.env (eval (.Name x p) X.env) = eval (.Name x p) X.env := by rfl)
    (hfew : ((backTo cpos (starEach (e :: []) X.env)).all (fun x => !x.1) && (backToKw cpos (keywordEach [] X.env)).all (fun x => x.1.isSome) && decide ((e :: []).length + ([] : List Keyword).length + (if ([] : List Keyword).isEmpty then 0 else 1) < 30)) = true := by rfl)
    (hline : (apos.endLine == cpos.line) = true := by rfl) (hs : starEach [e] X.env = (false, eval e X.env) :: starEach [] X.env := by rfl) (hsw : swapsWith (.Call (.Attribute (.Name x p) "remove" apos) [e] [] cpos) none pos.line X.env = pure false := by rfl)
    (hd : (x == ("__debug__" : Str)) = false := by decide) (hcd : (x == ("__classdict__" : Str)) = false := by decide) :
    JB X b (.Expr (.Call (.Attribute (.Name x p) "remove" apos) [e] [] cpos) pos :: rest) Γ Γs k ((m.bind fun a => pRem xs a).bind f) := by
  intro F0 H0 σ F H A o ho D P
  obtain ⟨ys, e0, e2⟩ := bind_some ho
  obtain ⟨a, e1, e3⟩ := bind_some e0
  unfold pRem at e3
  cases ej : xs.findIdx? fun y => y == a with
  | none => rw [ej] at e3; cases e3
  | some j =>
  rw [ej] at e3
  cases e3
  obtain ⟨hj, hp, hb⟩ := List.findIdx?_eq_some_iff_getElem.mp ej
  refine wS_of (pss_cons (ps_expr (pe_bm PySem.F.plainAttrs_list PySem.F.slot_list_remove PySem.F.type_list_remove mt_remove (pe_var hN hv hd hcd) (pa_cons pe_w pa_nil hs) hbase hfew hline hs rfl) hsw) pss_w) ?_
  obtain ⟨l, ob, h1, h2, h3, h4, vs, rfl, h6⟩ := A.mu i _ hg
  refine ⟨_, h1, .inl ⟨rfl, vs, SqL.of h2⟩, ?_⟩
  refine he F0 H0 σ F H A a e1 _ fun v F' H' g r => ?_
  cases (show v = .int a from r)
  have e4 := paired_int h6
  subst e4
  have h2' : H' l = some (.lst (xs.map V.int)) := g.hs _ _ h2
  refine ⟨l, xs, a, j, rfl, rfl, h2', ?_, fun n hn z => ?_, ?_⟩
  · rw [List.getElem?_eq_getElem hj]; simpa using hp
  · have := hb n hn
    rw [List.getElem?_eq_getElem (Nat.lt_trans hn hj)] at z
    have z := Option.some.inj z
    rw [z] at this; simp at this
  · exact hr _ F0 H0 σ F' _ ((A.grow g).chg hg h1 h2' (g.stays h3 h2) h4 ⟨_, rfl, int_paired _⟩) o e2 D P
/- d.pop(k) -/
def pDrop {α : Type} (kvs : List (Int × α)) (k : Int) : Option (List (Int × α)) := (lookD kvs k).map fun _ => kvs.filter fun p => decide (p.1 ≠ k)
theorem paired_dropK {α : Type} {C : Cd α} {F : Hp} {kvs : List (Int × α)} {ks : List (Key × V)} (h : Paired (fun (p : Int × α) (q : Key × V) => q.1 = Sum.inl p.1 ∧ C.rep p.2 q.2 F) kvs ks) (k : Int) :
    Paired (fun (p : Int × α) (q : Key × V) => q.1 = Sum.inl p.1 ∧ C.rep p.2 q.2 F) (kvs.filter fun p => decide (p.1 ≠ k)) (dropK ks (Sum.inl k)) := by
  unfold dropK
  induction h with
  | nil => exact .nil
  | @cons p q _ _ h1 t ih =>
    by_cases e : p.1 = k
    · have e' : q.1 = (Sum.inl k : Key) := by rw [h1.1, e]
      rw [List.filter_cons_of_neg (by simp [e]), List.filter_cons_of_neg (by simp [e'])]
      exact ih
    · have e' : ¬ q.1 = (Sum.inl k : Key) := fun z => e (Sum.inl.inj (h1.1.symm.trans z))
      rw [List.filter_cons_of_pos (by simp [e]), List.filter_cons_of_pos (by simp [e'])]
      exact .cons h1 ih
theorem jb_dpop {S R : Type} {Γs : S → List En} {k : Rk R} {rest : List Stmt} {i : Nat} {x : Str} {p apos cpos pos : Pos} {e : Expr} {α : Type} {C : Cd α} {kvs : List (Int × α)} {m : Option Int} {f : List (Int × α) → Option (Out S R)} (hN : X.N[i]? = some x) (hv : Vis X.env.scope x) (hg : Γ[i]? = some (.mu (mD C kvs))) (he : JE X b e Γ (fr cI) m)
    (hr : ∀ ys, JB X b rest (Γ.set i (.mu (mD C ys))) Γs k (f ys)) (mm : M1 X (.Name x p) "pop" apos e cpos) (hsw : swapsWith (.Call (.Attribute (.Name x p) "pop" apos) [e] [] cpos) none pos.line X.env = pure false := by rfl)
    (hd : (x == ("__debug__" : Str)) = false := by decide) (hcd : (x == ("__classdict__" : Str)) = false := by decide) :
    JB X b (.Expr (.Call (.Attribute (.Name x p) "pop" apos) [e] [] cpos) pos :: rest) Γ Γs k ((m.bind fun a => pDrop kvs a).bind f) := by
  intro F0 H0 σ F H A o ho D P
  obtain ⟨ys, e0, e2⟩ := bind_some ho
  obtain ⟨a, e1, e3⟩ := bind_some e0
  unfold pDrop at e3
  cases el : lookD kvs a with
  | none => rw [el] at e3; cases e3
  | some z =>
  rw [el] at e3
  cases e3
  refine wS_of (pss_cons (ps_expr (pe_dpop1 (pe_var hN hv hd hcd) pe_w mm) hsw) pss_w) ?_
  obtain ⟨l, ob, h1, h2, h3, h4, vs, rfl, h6⟩ := A.mu i _ hg
  refine ⟨_, h1, l, rfl, .inl ⟨vs, Rd.of h2⟩, ?_⟩
  refine he F0 H0 σ F H A a e1 _ fun v F' H' g r => ?_
  cases (show v = .int a from r)
  have h2' : H' l = some (.dK vs) := g.hs _ _ h2
  obtain ⟨w, hw, _⟩ := (paired_look a h6).1 z el
  refine ⟨vs, Sum.inl a, w, h2', rfl, hw, ?_⟩
  exact hr _ F0 H0 σ F' _ ((A.grow g).chg hg h1 h2' (g.stays h3 h2) h4 ⟨_, rfl, paired_dropK (paired_mono h6 fun _ _ q => ⟨q.1, C.mono _ _ _ _ g.fs q.2⟩) a⟩) o e2 D P
/- d == e, two dicts of plain values that are equal -/
def pEqDict {α : Type} [DecidableEq α] (kvs ls : List (Int × α)) : Option Bool := if kvs.length = ls.length ∧ ∀ p ∈ kvs, lookD ls p.1 = some p.2 then some true else none
theorem je_eqDict {a c : Expr} {pos : Pos} {α : Type} [DecidableEq α] {C : Cd α} (fl : ∀ a v F, C.rep a v F → flatB v = true) (un : ∀ a v w F, C.rep a v F → C.rep a w F → v = w) {m1 m2 : Option (List (Int × α))} (hu : X.A.units < cLine) (ha : JE X true a Γ (fr (cD C)) m1) (hc : JE X true c Γ (fr (cD C)) m2) (hm : behindInMarks .Eq c = false) :
    JE X true (.Compare a [.Eq] [c] pos) Γ (fr cB) (bind2 m1 m2 pEqDict) := by
  intro F0 H0 σ F H A z ez Q q
  obtain ⟨kvs, ls, e1, e2, e3⟩ := bind2_some ez
  unfold pEqDict at e3
  by_cases c : kvs.length = ls.length ∧ ∀ p ∈ kvs, lookD ls p.1 = some p.2
  case neg => rw [if_neg c] at e3; cases e3
  rw [if_pos c] at e3
  cases e3
  refine wE_of (pe_cmpR (op_eq_dictA hu) pe_w pe_w hm) ?_
  refine ha F0 H0 σ F H A kvs e1 _ fun v F1 H1 g1 r1 => ?_
  refine hc F0 H0 σ F1 H1 (A.grow g1) ls e2 _ fun w F2 H2 g2 r2 => ?_
  obtain ⟨p, ks, rfl, h1, h2⟩ := r1
  obtain ⟨p', ks', rfl, h1', h2'⟩ := r2
  have A2 := (A.grow g1).grow g2
  have h2 := paired_mono h2 fun _ _ (q : _ ∧ _) => (⟨q.1, C.mono _ _ _ _ g2.fs q.2⟩ : _ ∧ C.rep _ _ F2)
  refine ⟨p, p', ks, ks', rfl, rfl, A2.gr.fx.un (A2.nl rfl) (g2.fs _ _ h1), A2.gr.fx.un (A2.nl rfl) h1', ?_, fun kv hkv => ?_, q _ F2 H2 (g1.trans g2) rfl⟩
  · rw [← paired_len h2, ← paired_len h2', c.1]
  · obtain ⟨i, hi, e⟩ := List.getElem_of_mem hkv
    obtain ⟨a, ha, ra, rv⟩ := paired_ix h2 (i := i) (by rw [List.getElem?_eq_getElem hi, e])
    obtain ⟨v, e4, r4⟩ := (paired_look a.1 h2').1 a.2 (c.2 a (List.mem_of_getElem? ha))
    rw [ra, e4, un _ _ _ _ r4 rv]
    exact ⟨rfl, fl _ _ _ rv⟩
theorem fl_O : ∀ a v F, cO.rep a v F → flatB v = true := fun a v F h => by cases (show v = vO a from h); cases a <;> rfl
theorem un_O : ∀ a v w F, cO.rep a v F → cO.rep a w F → v = w := fun a v w F h h2 => (show v = vO a from h).trans (show w = vO a from h2).symm
theorem fl_I : ∀ a v F, cI.rep a v F → flatB v = true := fun a v F h => by cases (show v = .int a from h); rfl
theorem un_I : ∀ a v w F, cI.rep a v F → cI.rep a w F → v = w := fun a v w F h h2 => (show v = .int a from h).trans (show w = .int a from h2).symm
end
end Cw
/- CwExp8: tuples joined and cut, reversed. -/
namespace Cw
open PySem PySem.Spec L2
open PyProof.Rows hiding St
section
variable {X : Cx} {b : Bool} {Γ : List En}
theorem je_slT {e : Expr} {lo hi : Option Expr} {p2 pos : Pos} {α : Type} {C : Cd α} {m : Option (List α)} {ml mh : Option (Option Int)} (h : JE X b e Γ (fr (cT C)) m) (hl : JP X b lo Γ ml) (hh : JP X b hi Γ mh) :
    JE X b (.Subscript e (.Slice lo hi none p2) pos) Γ (fr (cT C)) (m.bind fun xs => ml.bind fun l => mh.bind fun u => some (cutG xs l u)) := by
  intro F0 H0 σ F H A z ez Q q
  obtain ⟨xs, e1, ez⟩ := bind_some ez
  obtain ⟨l, e2, ez⟩ := bind_some ez
  obtain ⟨u, e3, ez⟩ := bind_some ez
  cases ez
  obtain ⟨tl, pl, rl⟩ := hl
  obtain ⟨th, ph, rh⟩ := hh
  refine wE_of (pe_slice sl_tupA pe_w pl ph) ?_
  refine h F0 H0 σ F H A xs e1 _ fun v F1 H1 g1 r1 => ?_
  refine rl F0 H0 σ F1 H1 (A.grow g1) l e2 _ fun F2 H2 g2 => ?_
  refine rh F0 H0 σ F2 H2 ((A.grow g1).grow g2) u e3 _ fun F3 H3 g3 => ?_
  obtain ⟨p, vs, rfl, h1, h2⟩ := (cT C).mono _ _ _ _ (g2.fs.trans g3.fs) r1
  have g := (g1.trans g2).trans g3
  have pc := paired_cut h2 l u
  refine ⟨p, vs, rfl, SqT.of (tup_of g3.fx h1), fun hw => ?_, fun hw l' hl' => ?_⟩
  · refine q _ F3 H3 g ⟨p, vs, rfl, h1, ?_⟩
    have e4 : cutV vs l u = vs := by
      unfold cutV
      rw [hw.1, hw.2]; simp
    rw [e4] at pc
    exact pc
  · exact q _ (upd F3 l' (.tup (cutV vs l u))) _ (g.trans (Grow.put g3.fx hl' fun z => z)) ⟨l', _, rfl, upd_same, paired_mono pc fun _ _ k => C.mono _ _ _ _ (sameNew (g3.fx.emp hl')) k⟩
theorem r2_catT {α : Type} {C : Cd α} {K : PySem.W.Frag} : R2Ok (rCatA K) (cT C) (cT C) (fr (cT C)) pCat := by
  rintro xs ys vx vy F H fx ⟨p, vs, rfl, h1, h2⟩ ⟨p', ws, rfl, h3, h4⟩ z ez Q q
  unfold pCat at ez
  by_cases c : xs.length + ys.length ≤ 10000
  · rw [if_pos c] at ez
    cases ez
    refine ⟨p, p', vs, ws, rfl, rfl, SqT.of (tup_of fx h1), SqT.of (tup_of fx h3), ?_, fun e => ?_, fun _ e => ?_, fun _ _ l hl => ?_⟩
    · rw [← paired_len h2, ← paired_len h4]; exact Nat.le_trans c (by decide)
    · refine q _ F H (Grow.refl fx) ⟨p', ws, rfl, h3, ?_⟩
      subst e
      cases h2
      exact h4
    · refine q _ F H (Grow.refl fx) ⟨p, vs, rfl, h1, ?_⟩
      subst e
      cases h4
      rw [List.append_nil]
      exact h2
    · exact q _ (upd F l (.tup (vs ++ ws))) _ (Grow.put fx hl fun z => z) ⟨l, _, rfl, upd_same, paired_mono (paired_app h2 h4) fun _ _ k => C.mono _ _ _ _ (sameNew (fx.emp hl)) k⟩
  · rw [if_neg c] at ez; cases ez
theorem paired_rev {α β : Type} {G : α → β → Prop} {xs : List α} {ys : List β} (h : Paired G xs ys) : Paired G xs.reverse ys.reverse := by
  induction h with
  | nil => exact .nil
  | cons h _ ih =>
    rw [List.reverse_cons, List.reverse_cons]
    exact paired_app ih (.cons h .nil)
theorem rev_at {vs : List V} {i : Nat} {x : V} (hi : i < vs.length) (h : vs[vs.length - 1 - i]? = some x) : vs.reverse[i]? = some x := by
  rw [List.getElem?_reverse hi]; exact h
theorem ji_revL {tg e : Expr} {p pos : Pos} {α : Type} {C : Cd α} {m : Option (List α)} (hg : Gl X "reversed") (hm : X.mg "reversed" = none) (h : JE X b e Γ (fr (cL C)) m) (hs : starEach [e] X.env = (false, eval e X.env) :: starEach [] X.env := by rfl) :
    JI X b tg (.Call (.Name "reversed" p) [e] [] pos) Γ C (m.bind fun xs => some xs.reverse) := by
  intro F0 H0 σ F H A xs e1 R q
  obtain ⟨ys, e2, e3⟩ := bind_some e1
  cases e3
  refine wI_of (RT.pi_revA hg hm pe_w hs) ?_
  refine h F0 H0 σ F H A ys e2 _ fun v F' H' g r => ?_
  obtain ⟨a, vs, rfl, h1, h2⟩ := r
  have W : Walk (Itv X.K a vs.length) vs.reverse.length (fun H => SqL X.K H a vs) (fun i H x H' => H' = H ∧ vs[vs.length - 1 - i]? = some x) := by
    rw [List.length_reverse]; exact walk_rev
  refine ⟨a, vs, rfl, .inl ⟨SqL.of (lst_of g.fx h1), q _ F' H' vs.reverse g ⟨_, _, W, fun H'' fx => SqL.of (lst_of fx h1), fun i H'' x H3 _ hi y => ⟨y.1, ?_⟩⟩ (paired_rev h2)⟩⟩
  rw [List.length_reverse] at hi
  exact rev_at hi y.2
theorem walk_revT {K : PySem.W.Frag} {a : Addr} {xs : List V} : Walk (RT.ItvT K a xs.length) xs.length (fun H => SqT K H a xs) (fun i H x H' => H' = H ∧ xs[xs.length - 1 - i]? = some x) :=
  ⟨fun i _ hi q => ⟨hi, xs, xs[xs.length - 1 - i]'(by omega), q, by simp [show xs.length - 1 - i < xs.length by omega]⟩, fun _ _ => Nat.le_refl _, fun _ _ _ _ _ q y => ⟨y.1, y.2 xs q⟩⟩
theorem ji_revT {tg e : Expr} {p pos : Pos} {α : Type} {C : Cd α} {m : Option (List α)} (hg : Gl X "reversed") (hm : X.mg "reversed" = none) (h : JE X b e Γ (fr (cT C)) m) (hs : starEach [e] X.env = (false, eval e X.env) :: starEach [] X.env := by rfl) :
    JI X b tg (.Call (.Name "reversed" p) [e] [] pos) Γ C (m.bind fun xs => some xs.reverse) := by
  intro F0 H0 σ F H A xs e1 R q
  obtain ⟨ys, e2, e3⟩ := bind_some e1
  cases e3
  refine wI_of (RT.pi_revA hg hm pe_w hs) ?_
  refine h F0 H0 σ F H A ys e2 _ fun v F' H' g r => ?_
  obtain ⟨a, vs, rfl, h1, h2⟩ := r
  have W : Walk (RT.ItvT X.K a vs.length) vs.reverse.length (fun H => SqT X.K H a vs) (fun i H x H' => H' = H ∧ vs[vs.length - 1 - i]? = some x) := by
    rw [List.length_reverse]; exact walk_revT
  refine ⟨a, vs, rfl, .inr ⟨SqT.of (tup_of g.fx h1), q _ F' H' vs.reverse g ⟨_, _, W, fun H'' fx => SqT.of (tup_of fx h1), fun i H'' x H3 _ hi y => ⟨y.1, ?_⟩⟩ (paired_rev h2)⟩⟩
  rw [List.length_reverse] at hi
  exact rev_at hi y.2
/- is, of two bools -/
def rIsB : R2 := fun x y H Q => ∃ i j : Bool, x = .bl i ∧ y = .bl j ∧ Q (.bl (decide (i = j))) H
theorem op_isB : OpR X (compareOp .Is) rIsB := by
  intro pins s σ H x y v u Q I rx ry h
  obtain ⟨i, j, rfl, rfl, q⟩ := h
  cases rx
  cases ry
  refine wpAny_is_plain (by cases i <;> cases j <;> rfl) (fin_bl I q ?_)
  cases i <;> cases j <;> rfl
theorem r2_isB : R2Ok rIsB cB cB (fr cB) pEqB := by
  intro i j vx vy F H fx h1 h2 z ez Q q
  cases h1; cases h2; cases ez
  exact ⟨i, j, rfl, rfl, q _ F H (Grow.refl fx) rfl⟩
end
end Cw
/- CwExp9: list(reversed(xs)). -/
namespace Cw
open PySem PySem.Spec L2
open PyProof.Rows hiding St
section
variable {P : Program} {w : World} {A : Around} {E : Value → Shared → Prop} {s : Shared}
variable {it l : Addr} {items : Array Value}
abbrev lst0 (c : Nat) : Obj := { cls := .type "list", data := .seq #[] c }
theorem ext_rev {R : Result → Shared → Prop} (hh : A.handled = none) (hit : s.heap.IsRevIter it l ((items.size : Int) - 1)) (hl : s.heap.IsList l items) (hne : l ≠ it) (hn : items.size ≤ sizeLine) (S : Addr) (res : Value) (c : Nat) (hSf : S ∉ [it, l]) (hS : s.heap.get? S = some (lst0 c))
    (hR : ∀ h' tk acc c', (∀ b o, b ≠ it → b ≠ S → s.heap.get? b = some o → h'.get? b = some o) → h'.get? S = some { cls := .type "list", dict := none, data := .seq acc c', slots := #[] } → ItemsOf (fun i v => items[items.size - 1 - i]? = some v) acc items.size → R (.ok (.ret res)) { s with heap := h', toks := tk }) :
    wpAny (model P w) A.in1 (Builtin.List.listExtendWith (.ref S) (.ref it) res) (fun fin s' => match fin with | .done f => R (.ok f) s' | .again k => k.quiet = true ∧ codeAny (model P w) A k R s') (fun e s' => R (.error e) s') s := by
  have W := (Walks.listRev (prog := P) (w := w) (A := A.in1) hh it l hne items).toS
  have hSi : S ≠ it := fun z => hSf (by simp [z])
  have hT : s.TypeIs (.ref it) "list_reverseiterator" := hit.typeIs
  have ns : Builtin.List.listSameRef (.ref S) (.ref it) = false := by simp [Builtin.List.listSameRef, hSi]
  unfold Builtin.List.listExtendWith
  refine wpAny_bind (wpAny_typeOf hT ?_)
  rw [if_neg (by rw [ns]; decide)]
  refine wpAny_bind (wpAny_pyIter_revIter hit (wpAny_bind (wpAny_holding ?_)))
  unfold Builtin.List.listLengthHint
  refine wpAny_bind (wpAny_specialOf hT RT.nolen_lri ?_)
  show wpAny (model P w) A.in1 (specialOf (Value.ref it) (Str.ofString "__length_hint__") >>= _) _ _ _
  refine wpAny_bind (wpAny_specialOf hT RT.hint_lri ?_)
  generalize hq : ("list_reverseiterator.__length_hint__" : String) = nm
  wp_delta
  rw [show splitId nm = some ("list_reverseiterator", "__length_hint__") by subst hq; decide +kernel]
  subst hq
  refine wpAny_bind (wpAny_isInstance hT (b := true) (by rw [isSubtype_type]; kernel_rfl) (wpAny_pure ?_))
  rw [if_neg (by decide)]
  have e0 : ((items.size : Nat) : Int) - 1 - ((0 : Nat) : Int) = ((items.size : Nat) : Int) - 1 := by omega
  refine wpAny_pure ⟨plainId_quiet F.plain_extend_loop _, codeAny_extend_loopS W hn _ hSf _ items.size 0 _ _ _ rfl (Nat.zero_le _) ⟨Nat.zero_le _, by rw [e0]; exact hit, hl⟩ hS (ItemsOf.nil _) fun s' acc c' hm hS' ha => ?_⟩
  rw [Moved.eq_with hm]
  refine hR _ _ acc c' (fun b o hb hb2 e => hm.heap b o (fun z => ?_) e) hS' ha
  rcases List.mem_cons.mp z with q | q
  · exact hb2 q
  · exact hb (List.mem_singleton.mp q)
theorem init_rev {R : Result → Shared → Prop} (hh : A.handled = none) (hit : s.heap.IsRevIter it l ((items.size : Int) - 1)) (hl : s.heap.IsList l items) (hne : l ≠ it) (hn : items.size ≤ sizeLine) (S : Addr) (hSf : S ∉ [it, l]) (hS : s.heap.get? S = some (lst0 0))
    (hR : ∀ h' tk acc c', (∀ b o, b ≠ it → b ≠ S → s.heap.get? b = some o → h'.get? b = some o) → h'.get? S = some { cls := .type "list", dict := none, data := .seq acc c', slots := #[] } → ItemsOf (fun i v => items[items.size - 1 - i]? = some v) acc items.size → R (.ok (.ret .none)) { s with heap := h', toks := tk }) :
    wpAny (model P w) A.in1 (Builtin.«list.__init__» ⟨[.ref S, .ref it], []⟩) (fun fin s' => match fin with | .done f => R (.ok f) s' | .again k => k.quiet = true ∧ codeAny (model P w) A k R s') (fun e s' => R (.error e) s') s := by
  show wpAny (model P w) A.in1 (do let old ← Builtin.List.listItems (.ref S); Builtin.List.listUpdate (.ref S) (fun _ => #[]); letGo old.toList.reverse; Builtin.List.listExtendWith (.ref S) (.ref it) .none) _ _ s
  refine wpAny_bind ?_
  unfold Builtin.List.listItems
  refine wpAny_bind (wpAny_seqItems hS rfl (wpAny_pure ?_))
  show wpAny (model P w) A.in1 (updateSeq S (fun _ => #[]) >>= fun _ => letGo (#[] : Array Value).toList.reverse >>= fun _ => Builtin.List.listExtendWith (.ref S) (.ref it) .none) _ _ s
  refine wpAny_bind (wpAny_updateSeq hS rfl ?_)
  have hS2 := Heap.get?_update_self (Obj.mapSeq (fun _ => (#[] : Array Value))) hS rfl
  have ot : ∀ b o, b ≠ S → s.heap.get? b = some o → (s.heap.update S (Obj.mapSeq (fun _ => (#[] : Array Value)))).get? b = some o := fun b o hb e => (Heap.get?_update_other _ _ (Ne.symm hb)).trans e
  have n1 : it ≠ S := fun z => hSf (by simp [z])
  have n2 : l ≠ S := fun z => hSf (by simp [z])
  refine wpAny_bind (wpAny_letGo ?_)
  exact ext_rev hh (hit.at fun o e => ot it o n1 e) (hl.at fun o e => ot l o n2 e) hne hn S .none _ hSf hS2 fun h' tk acc c' k1 k2 k3 => hR h' tk acc c' (fun b o hb hb2 e => k1 b o hb hb2 (ot b o hb2 e)) k2 k3
theorem call_list_rev {Q : Value → Shared → Prop} (hh : A.handled = none) (hit : s.heap.IsRevIter it l ((items.size : Int) - 1)) (hl : s.heap.IsList l items) (hne : l ≠ it) (hn : items.size ≤ sizeLine)
    (hQ : ∀ h' tk acc c', (∀ b o, b ≠ it → s.heap.get? b = some o → h'.get? b = some o) → h'.get? s.heap.objs.size = some { cls := .type "list", dict := none, data := .seq acc c', slots := #[] } → ItemsOf (fun i v => items[items.size - 1 - i]? = some v) acc items.size → Q (.ref s.heap.objs.size) { s with heap := h', toks := tk }) :
    wpAny (model P w) A (call (.type "list") [.ref it]) Q E s := by
  obtain ⟨oi, hoi, _⟩ := id hit
  obtain ⟨ol, hol, _⟩ := id hl
  have li := Heap.lt_size hoi
  have ll := Heap.lt_size hol
  have hSf : s.heap.objs.size ∉ [it, l] := by
    simp only [List.mem_cons, List.not_mem_nil, or_false, not_or]
    exact ⟨Nat.ne_of_gt li, Nat.ne_of_gt ll⟩
  refine callType_codes (Q₁ := fun ob t => ob = .ref s.heap.objs.size ∧ t = { s with heap := s.heap.push (lst0 0) }) F.called_list (F.typeCall_list_1 _) F.entry_list_init (code_list_new _ ⟨rfl, rfl⟩) fun ob t h => ?_
  obtain ⟨rfl, rfl⟩ := h
  have hS : (s.heap.push (lst0 0)).get? s.heap.objs.size = some (lst0 0) := Heap.get?_push_size _ rfl
  refine ⟨⟨_, hS, rfl⟩, F.args_list_init_2 _ _, init_rev (s := { s with heap := s.heap.push (lst0 0) }) (A := A.in1) hh (hit.at fun o e => Heap.get?_push_of_some _ e) (hl.push _) hne hn _ hSf hS fun h' tk acc c' k1 k2 k3 => ⟨rfl, hQ h' tk acc c' (fun b o hb e => k1 b o hb (Nat.ne_of_lt (Heap.lt_size e)) (Heap.get?_push_of_some _ e)) k2 k3⟩⟩
end
section
variable {X : Cx} {b : Bool} {Γ : List En}
def tLstRev (K : PySem.W.Frag) (te : TE) : TE := fun σ H Q => te σ H fun v H1 => ∃ (a : Addr) (xs : List V), v = .ref a ∧ SqL K H1 a xs ∧ ∀ q, H1 q = none → Q (.ref q) (upd H1 q (.lst xs.reverse))
theorem pe_lstRev {e : Expr} {te : TE} {p p2 pos pos2 : Pos} (hc : X.calm = true) (hg : Gl X "list") (hm : X.mg "list" = none) (hg2 : Gl X "reversed") (hm2 : X.mg "reversed" = none) (he : PE X e te) (hs : starEach [e] X.env = (false, eval e X.env) :: starEach [] X.env)
    (hs2 : starEach [.Call (.Name "reversed" p2) [e] [] pos2] X.env = (false, eval (.Call (.Name "reversed" p2) [e] [] pos2) X.env) :: starEach [] X.env) : PE X (.Call (.Name "list" p) [.Call (.Name "reversed" p2) [e] [] pos2] [] pos) (tLstRev X.K te) := by
  refine ⟨fun pins s σ H Q I h => ?_⟩
  refine Call_ (ld_blt I hg hm boot_list (PyProof.Rows.callWith_type1 (args_cons (Call_ (ld_blt I hg2 hm2 PyProof.Rows.boot_reversed (PyProof.Rows.callWith_type1 (args_cons (thn (he.run pins s σ H _ I h) fun u s1 ⟨v, H1, I1, r1, q1⟩ => args_nil ?_) hs) hs rfl))) hs2) hs2 rfl))
  obtain ⟨a, xs, rfl, hq, q⟩ := q1
  cases r1
  obtain ⟨its, rv, pl, hz⟩ := I1.list hq
  refine call_reversed_list pl.isList (args_nil ?_)
  have I2 : Inv X pins σ H1 { s1 with heap := s1.heap.push (revObj a ((its.toArray.size : Int) - 1)) } := I1.kept (t' := s1.toks) fun _ _ e => Heap.get?_push_of_some _ e
  have fp : FpOk X pins H1 s1.heap.objs.size := I1.fpOk (H' := H1) (Nat.le_refl _) (I1.hok.fresh (Nat.le_refl _))
  obtain ⟨ol, hol, _⟩ := id pl.isList
  have ne : a ≠ s1.heap.objs.size := Nat.ne_of_lt (Heap.lt_size hol)
  have hn : its.toArray.size ≤ sizeLine := by rw [List.size_toArray, ← rv.length]; exact hz
  refine call_list_rev (s := { s1 with heap := s1.heap.push (revObj a ((its.toArray.size : Int) - 1)) }) (I1.ok.hd hc) ⟨_, Heap.get?_push_size _ rfl, rfl, rfl⟩ (pl.isList.push _) ne hn fun h' tk acc c' hk hD hi => ?_
  have fr : H1 (s1.heap.push (revObj a ((its.toArray.size : Int) - 1))).objs.size = none := I2.hok.fresh (Nat.le_refl _)
  refine ⟨.ref _, _, Inv.turnedNew (t' := tk) (ch := [s1.heap.objs.size]) (ob := .lst xs.reverse) I2 (fun c o hc e => hk c o (fun z => hc (by simp [z])) e) (fun c hc => by rw [List.mem_singleton.mp hc]; exact fp) (Nat.le_refl _) ?_, rfl, q _ fr⟩
  refine ⟨by rw [List.length_reverse]; exact hz, acc.toList, c', RT.vals_rev rv hi, ?_⟩
  rw [Array.toArray_toList]
  exact hD
theorem je_lstRev {e : Expr} {p p2 pos pos2 : Pos} {α : Type} {C : Cd α} {m : Option (List α)} (hc : X.calm = true) (hg : Gl X "list") (hm : X.mg "list" = none) (hg2 : Gl X "reversed") (hm2 : X.mg "reversed" = none) (h : JE X b e Γ (fr (cL C)) m) (hs : starEach [e] X.env = (false, eval e X.env) :: starEach [] X.env := by rfl)
    (hs2 : starEach [.Call (.Name "reversed" p2) [e] [] pos2] X.env = (false, eval (.Call (.Name "reversed" p2) [e] [] pos2) X.env) :: starEach [] X.env := by rfl) : JE X b (.Call (.Name "list" p) [.Call (.Name "reversed" p2) [e] [] pos2] [] pos) Γ (nw (mL C)) (m.bind fun xs => some xs.reverse) := by
  intro F0 H0 σ F H A z ez Q q
  obtain ⟨xs, e1, ez⟩ := bind_some ez
  cases ez
  refine wE_of (pe_lstRev hc hg hm hg2 hm2 pe_w hs hs2) ?_
  refine h F0 H0 σ F H A xs e1 _ fun v F' H' g r => ?_
  obtain ⟨a, vs, rfl, h1, h2⟩ := r
  exact ⟨a, vs, rfl, SqL.of (lst_of g.fx h1), fun l hl => q _ F' _ (g.trans (grow_new g.fx hl fun z => z)) ⟨l, _, rfl, g.hs.free hl, upd_same, g.fx.emp hl, _, rfl, paired_rev h2⟩⟩
end
end Cw
/- CwExp10: dicts of one's own lists. -/
namespace Cw
open PySem PySem.Spec L2
open PyProof.Rows hiding St
def ownRow {α : Type} (C : Cd α) (R F : Hp) (p : Int × List α) (q : Key × V) : Prop := q.1 = Sum.inl p.1 ∧ ∃ a vs, q.2 = .ref a ∧ R a = some (.lst vs) ∧ Paired (fun x v => C.rep x v F) p.2 vs
def mDL {α : Type} (C : Cd α) (kvs : List (Int × List α)) : OFact where
  p := fun _ o R F => ∃ ks, o = .dK ks ∧ Paired (ownRow C R F) kvs ks ∧ ((ks.map (·.2)).Nodup ∧ (kvs.map (·.1)).Nodup) ∧ ∀ a u, R a = some u → ∃ vs, u = .lst vs
  mono := fun _ o R F F' s ⟨ks, h1, h2, h3⟩ => ⟨ks, h1, paired_mono h2 fun _ _ ⟨q1, a, vs, q2, q3, q4⟩ => ⟨q1, a, vs, q2, q3, paired_mono q4 fun _ _ r => C.mono _ _ _ _ s r⟩, h3⟩
  nofrz := fun _ o R F ⟨ks, h1, _, _, h4⟩ => ⟨by subst h1; exact id, fun a u e => by obtain ⟨vs, rfl⟩ := h4 a u e; exact id⟩
/- F with one's own objects taken in -/
def uni (F R : Hp) (l : Addr) (o : HO) : Hp := fun a => if a = l then some o else match R a with | some u => some u | none => F a
theorem uni_l {F R : Hp} {l : Addr} {o : HO} : uni F R l o l = some o := if_pos rfl
theorem uni_R {F R : Hp} {l a : Addr} {o u : HO} (n : R l = none) (h : R a = some u) : uni F R l o a = some u := by
  have ne : a ≠ l := fun z => by rw [z, n] at h; cases h
  unfold uni
  rw [if_neg ne, h]
theorem uni_same {F R : Hp} {l : Addr} {o : HO} (h1 : F l = none) (h2 : ∀ a u, R a = some u → F a = none) : Same F (uni F R l o) := fun a u e => by
  have ne : a ≠ l := fun z => by rw [z, h1] at e; cases e
  unfold uni
  rw [if_neg ne]
  cases q : R a with
  | none => exact e
  | some v => rw [h2 a v q] at e; cases e
theorem uni_inv {F R : Hp} {l a : Addr} {o u : HO} (h : uni F R l o a = some u) : (a = l ∧ u = o) ∨ R a = some u ∨ F a = some u := by
  unfold uni at h
  by_cases c : a = l
  · rw [if_pos c] at h; exact .inl ⟨c, (Option.some.inj h).symm⟩
  · rw [if_neg c] at h
    cases q : R a with
    | none => rw [q] at h; exact .inr (.inr h)
    | some v => rw [q] at h; exact .inr (.inl h)
section
variable {X : Cx} {b : Bool} {Γ : List En}
theorem Sat.frzO {F0 H0 F H : Hp} {σ : St} {i : Nat} {χ : OFact} {φ : Fact} (S : Sat b F0 H0 Γ σ F H) (hg : Γ[i]? = some (.ow χ)) (hq : ∀ l o R F, F l = none → R l = none → (∀ a u, R a = some u → F a = none) → χ.p l o R F → φ.p (.ref l) (uni F R l o)) :
    ∃ l o R, OwAt H0 Γ σ F H i χ l o R ∧ Same F (uni F R l o) ∧ Sat b F0 H0 (Γ.set i (.fz φ)) σ (uni F R l o) H := by
  obtain ⟨l, o, R, w⟩ := S.ow i χ hg
  obtain ⟨w1, w2, w3, w4, w5, w6, w7, w8⟩ := id w
  have hs : Same F (uni F R l o) := uni_same w3 fun a u e => (w6 a u e).2.1
  have back : ∀ (a : Addr) (u : HO), uni F R l o a = some u → F a = some u ∨ (H a = some u ∧ H0 a = none) := fun a u e => by
    rcases uni_inv e with ⟨rfl, rfl⟩ | q | q
    · exact .inr ⟨w2, w4⟩
    · exact .inr ⟨(w6 a u q).1, (w6 a u q).2.2⟩
    · exact .inl q
  have emp : ∀ m, F m = none → m ≠ l → R m = none → uni F R l o m = none := fun m h1 h2 h3 => by
    unfold uni; rw [if_neg h2, h3]; exact h1
  refine ⟨l, o, R, w, hs, ⟨S.gr.fs.trans hs, fun a u e => ?_, S.gr.hs, fun a e => ?_, S.gr.nf⟩, S.nl, by rw [List.length_set]; exact S.len, fun j φ' e => ?_, fun j ψ' e => ?_, fun j k ψ1 ψ2 m e1 e2 e3 e4 => ?_, fun j χ' e => ?_, fun j k χ1 χ2 e1 e2 => S.ow1 j k χ1 χ2 (set_back e1 (fun z => nomatch z)).2 (set_back e2 (fun z => nomatch z)).2⟩
  · rcases back a u e with q | q
    · exact S.gr.fx a u q
    · exact .inl q.1
  · cases q : uni F R l o a with
    | none => exact absurd q e
    | some u =>
      rcases back a u q with r | r
      · exact S.gr.nw a (by rw [r]; simp)
      · exact .inr r.2
  · by_cases q : i = j
    · subst q
      have hi : i < Γ.length := (List.getElem?_eq_some_iff.mp hg).1
      rw [List.getElem?_set_self hi] at e
      have e' := Option.some.inj e
      cases e'
      exact ⟨_, w1, hq l o R F w3 w5 (fun a u e => (w6 a u e).2.1) w7⟩
    · rw [List.getElem?_set_ne q] at e
      obtain ⟨v, q1, q2⟩ := S.fz j φ' e
      exact ⟨v, q1, φ'.mono _ _ _ hs q2⟩
  · obtain ⟨q, e'⟩ := set_back e (fun z => nomatch z)
    obtain ⟨m, om, q1, q2, q3, q4, q5⟩ := S.mu j ψ' e'
    obtain ⟨n1, n2⟩ := w8 j ψ' m e' q1
    exact ⟨m, om, q1, q2, emp m q3 n1 n2, q4, ψ'.mono _ _ _ hs q5⟩
  · exact S.ne j k ψ1 ψ2 m (set_back e1 (fun z => nomatch z)).2 (set_back e2 (fun z => nomatch z)).2 e3 e4
  · obtain ⟨q, e'⟩ := set_back e (fun z => nomatch z)
    exact absurd (S.ow1 i j χ χ' hg e') q
/- what a frozen dict of lists is -/
theorem qO {α : Type} {C : Cd α} {kvs : List (Int × List α)} : ∀ l o R F, F l = none → R l = none → (∀ a u, R a = some u → F a = none) → (mDL C kvs).p l o R F → ((cD (cL C)).at kvs).p (.ref l) (uni F R l o) := by
  rintro l o R F h1 h2 h3 ⟨ks, rfl, h4, _⟩
  have hs : Same F (uni F R l (.dK ks)) := uni_same h1 h3
  exact ⟨l, ks, rfl, uni_l, paired_mono h4 fun _ _ ⟨q1, a, vs, q2, q3, q4⟩ => ⟨q1, a, vs, q2, uni_R h2 q3, paired_mono q4 fun _ _ r => C.mono _ _ _ _ hs r⟩⟩
theorem jb_frzO {S R' : Type} {Γs : S → List En} {k : Rk R'} {i : Nat} {χ : OFact} {φ : Fact} {sts : List Stmt} {m : Option (Out S R')} (hg : Γ[i]? = some (.ow χ)) (hq : ∀ l o R F, F l = none → R l = none → (∀ a u, R a = some u → F a = none) → χ.p l o R F → φ.p (.ref l) (uni F R l o)) (h : JB X b sts (Γ.set i (.fz φ)) Γs k m) : JB X b sts Γ Γs k m := by
  intro F0 H0 σ F H A o ho D P
  obtain ⟨l, ob, R, _, _, A'⟩ := A.frzO hg hq
  exact h F0 H0 σ _ H A' o ho D P
theorem je_peekO (i : Nat) {e : Expr} {α : Type} {k : Rk α} {m : Option α} {χ : OFact} {φ : Fact} (hg : Γ[i]? = some (.ow χ)) (hq : ∀ l o R F, F l = none → R l = none → (∀ a u, R a = some u → F a = none) → χ.p l o R F → φ.p (.ref l) (uni F R l o)) (hk : k.Indep) (h : JE X b e (Γ.set i (.fz φ)) k m) : JE X b e Γ k m := by
  intro F0 H0 σ F H A a ea Q q
  obtain ⟨l, o, R, _, hs, A'⟩ := A.frzO hg hq
  refine h F0 H0 σ _ H A' a ea Q fun v F' H' g r => ?_
  exact q v F H' ⟨Same.refl _, A.gr.fx.up g.hs, g.hs, fun _ h => .inl h, g.nf⟩ (hk _ _ _ _ _ _ (hs.trans g.fs) r)
theorem jt_peekO (i : Nat) {e : Expr} {m : Option Bool} {χ : OFact} {φ : Fact} (hg : Γ[i]? = some (.ow χ)) (hq : ∀ l o R F, F l = none → R l = none → (∀ a u, R a = some u → F a = none) → χ.p l o R F → φ.p (.ref l) (uni F R l o)) (h : JT X b e (Γ.set i (.fz φ)) m) : JT X b e Γ m := by
  intro F0 H0 σ F H A a ea Q q
  obtain ⟨l, o, R, _, hs, A'⟩ := A.frzO hg hq
  refine h F0 H0 σ _ H A' a ea Q fun F' H' g => ?_
  exact q F H' ⟨Same.refl _, A.gr.fx.up g.hs, g.hs, fun _ h => .inl h, g.nf⟩
/- a change of one's own, and of what stands behind it -/
theorem Sat.chgO {F0 H0 F H H' : Hp} {σ : St} {i : Nat} {χ χ' : OFact} {l : Addr} {o o' : HO} {R R' : Hp} (S : Sat b F0 H0 Γ σ F H) (hg : Γ[i]? = some (.ow χ)) (w : OwAt H0 Γ σ F H i χ l o R) (hH : ∀ a, a ≠ l → R' a = none → H' a = H a) (hl : H' l = some o') (hR' : R' l = none)
    (hR : ∀ a u, R' a = some u → H' a = some u ∧ F a = none ∧ H0 a = none ∧ ∀ (j : Nat) (ψ : MFact) (m : Addr), Γ[j]? = some (.mu ψ) → σ[j]? = some (some (.ref m)) → m ≠ a) (hχ : χ'.p l o' R' F) : Sat b F0 H0 (Γ.set i (.ow χ')) σ F H' := by
  obtain ⟨w1, w2, w3, w4, w5, w6, w7, w8⟩ := id w
  have hlen : i < Γ.length := (List.getElem?_eq_some_iff.mp hg).1
  have out : ∀ a, (∀ u, F a = some u ∨ H0 a = some u → a ≠ l ∧ R' a = none) := fun a u h => by
    refine ⟨fun z => ?_, ?_⟩
    · subst z
      rcases h with h | h
      · rw [w3] at h; cases h
      · rw [w4] at h; cases h
    · cases q : R' a with
      | none => rfl
      | some v =>
        obtain ⟨_, q1, q2, _⟩ := hR a v q
        rcases h with h | h
        · rw [q1] at h; cases h
        · rw [q2] at h; cases h
  have mus : ∀ (j : Nat) (ψ : MFact) (m : Addr), Γ[j]? = some (.mu ψ) → σ[j]? = some (some (.ref m)) → m ≠ l ∧ R' m = none := fun j ψ m e1 e2 => by
    refine ⟨(w8 j ψ m e1 e2).1, ?_⟩
    cases q : R' m with
    | none => rfl
    | some v => exact absurd rfl ((hR m v q).2.2.2 j ψ m e1 e2)
  have muback : ∀ (j : Nat) (ψ : MFact), (Γ.set i (.ow χ'))[j]? = some (.mu ψ) → Γ[j]? = some (.mu ψ) := fun j ψ e => (set_back e (fun z => nomatch z)).2
  have nofz : ∀ a ob u, isD u → H' a = some (.frz ob u) → H a = some (.frz ob u) := fun a ob u d e => by
    by_cases c : a = l
    · subst c
      rw [hl] at e
      have := (χ'.nofrz _ _ _ _ hχ).1
      rw [Option.some.inj e] at this
      exact absurd trivial this
    · cases q : R' a with
      | none => rw [hH a c q] at e; exact e
      | some v =>
        have := (χ'.nofrz _ _ _ _ hχ).2 a v q
        rw [(hR a v q).1] at e
        rw [Option.some.inj e] at this
        exact absurd trivial this
  refine ⟨⟨S.gr.fs, fun a u e => ?_, fun a u e => ?_, S.gr.nw, fun a ob u d e => S.gr.nf a ob u d (nofz a ob u d e)⟩, fun hb a ob u d e => S.nl hb a ob u d (nofz a ob u d e), by rw [List.length_set]; exact S.len, fun j φ e => ?_, fun j ψ e => ?_, fun j k ψ1 ψ2 m e1 e2 e3 e4 => S.ne j k ψ1 ψ2 m (muback j _ e1) (muback k _ e2) e3 e4, fun j χ1 e => ?_, fun j k χ1 χ2 e1 e2 => ?_⟩
  · obtain ⟨n1, n2⟩ := out a u (.inl e)
    rw [hH a n1 n2]; exact S.gr.fx a u e
  · obtain ⟨n1, n2⟩ := out a u (.inr e)
    rw [hH a n1 n2]; exact S.gr.hs a u e
  · exact S.fz j φ (set_back e (fun z => nomatch z)).2
  · obtain ⟨m, om, q1, q2, q3, q4, q5⟩ := S.mu j ψ (muback j ψ e)
    obtain ⟨n1, n2⟩ := mus j ψ m (muback j ψ e) q1
    exact ⟨m, om, q1, by rw [hH m n1 n2]; exact q2, q3, q4, q5⟩
  · by_cases q : i = j
    · subst q
      rw [List.getElem?_set_self hlen] at e
      have e' := Option.some.inj e
      cases e'
      exact ⟨l, o', R', w1, hl, w3, w4, hR', fun a u e => ⟨(hR a u e).1, (hR a u e).2.1, (hR a u e).2.2.1⟩, hχ, fun k ψ m e1 e2 => mus k ψ m (muback k ψ e1) e2⟩
    · rw [List.getElem?_set_ne q] at e
      exact absurd (S.ow1 i j χ χ1 hg e) q
  · have up : ∀ (t : Nat) (χt : OFact), (Γ.set i (.ow χ'))[t]? = some (.ow χt) → ∃ χ0 : OFact, Γ[t]? = some (.ow χ0) := fun t χt e => by
      by_cases q : i = t
      · subst q; exact ⟨_, hg⟩
      · rw [List.getElem?_set_ne q] at e; exact ⟨_, e⟩
    obtain ⟨a1, b1⟩ := up j χ1 e1
    obtain ⟨a2, b2⟩ := up k χ2 e2
    exact S.ow1 j k a1 a2 b1 b2
/- the lists of a key changed -/
def setV {α : Type} (kvs : List (Int × List α)) (k : Int) (xs : List α) : List (Int × List α) := kvs.map fun p => if p.1 = k then (p.1, xs) else p
theorem setV_keys {α : Type} {kvs : List (Int × List α)} {k : Int} {xs : List α} : (setV kvs k xs).map (·.1) = kvs.map (·.1) := by
  unfold setV
  rw [List.map_map]
  refine List.map_congr_left fun p _ => ?_
  show (if p.1 = k then (p.1, xs) else p).1 = p.1
  split <;> rfl
theorem setV_none {α : Type} {kvs : List (Int × List α)} {k : Int} {xs : List α} (h : k ∉ kvs.map (·.1)) : setV kvs k xs = kvs := by
  unfold setV
  refine (List.map_congr_left fun p hp => ?_).trans (List.map_id' kvs)
  rw [if_neg fun z => h (List.mem_map.mpr ⟨p, hp, z⟩)]
theorem own_row {α : Type} {C : Cd α} {R F : Hp} {kvs : List (Int × List α)} {ks : List (Key × V)} (h : Paired (ownRow C R F) kvs ks) (nd : (ks.map (·.2)).Nodup) (kd : (kvs.map (·.1)).Nodup) {k : Int} {xs : List α} (e : lookD kvs k = some xs) :
    ∃ a vs, valV ks (Sum.inl k) = some (.ref a) ∧ .ref a ∈ ks.map (·.2) ∧ R a = some (.lst vs) ∧ Paired (fun x v => C.rep x v F) xs vs ∧ ∀ xs' vs', Paired (fun x v => C.rep x v F) xs' vs' → Paired (ownRow C (upd R a (.lst vs')) F) (setV kvs k xs') ks := by
  induction h with
  | nil => cases e
  | @cons p q ps qs h t ih =>
    obtain ⟨h1, a, vs, h2, h3, h4⟩ := h
    obtain ⟨n1, n2⟩ := List.nodup_cons.mp (show (q.2 :: qs.map (·.2)).Nodup from nd)
    obtain ⟨m1, m2⟩ := List.nodup_cons.mp (show (p.1 :: ps.map (·.1)).Nodup from kd)
    by_cases c : p.1 = k
    · have e' : some p.2 = some xs := by rw [← e]; simp [lookD, List.find?_cons, c]
      cases e'
      refine ⟨a, vs, by rw [valV_pos (by rw [h1, c]), h2], by rw [← h2]; exact List.mem_cons_self, h3, h4, fun xs' vs' r => ?_⟩
      have e2 : setV (p :: ps) k xs' = (p.1, xs') :: ps := by
        show (if p.1 = k then (p.1, xs') else p) :: setV ps k xs' = _
        rw [if_pos c, setV_none (by rw [← c]; exact m1)]
      rw [e2]
      refine .cons ⟨h1, a, vs', h2, upd_same, r⟩ ?_
      clear ih e n2 m1 m2 kd nd e2
      induction t with
      | nil => exact .nil
      | @cons p' q' _ qs2 hh _ ih2 =>
        obtain ⟨g1, a', vs2, g2, g3, g4⟩ := hh
        have n1' : q.2 ∉ q'.2 :: qs2.map (fun x : Key × V => x.2) := n1
        have ne : a' ≠ a := fun z => n1' (List.mem_cons.mpr (.inl (by rw [h2, g2, z])))
        exact .cons ⟨g1, a', vs2, g2, by rw [upd_ne ne]; exact g3, g4⟩ (ih2 fun z => n1' (List.mem_cons_of_mem _ z))
    · have e' : lookD ps k = some xs := by rw [← e]; simp [lookD, List.find?_cons, c]
      obtain ⟨a', vs2, i1, i0, i2, i3, i4⟩ := ih n2 m2 e'
      have cq : ¬ q.1 = (Sum.inl k : Key) := fun z => c (Sum.inl.inj (h1.symm.trans z))
      refine ⟨a', vs2, by rw [valV_neg cq]; exact i1, List.mem_cons_of_mem _ i0, i2, i3, fun xs' vs' r => ?_⟩
      have e2 : setV (p :: ps) k xs' = p :: setV ps k xs' := by
        show (if p.1 = k then (p.1, xs') else p) :: setV ps k xs' = _
        rw [if_neg c]
      rw [e2]
      have ne : a ≠ a' := fun z => n1 (by rw [h2, z]; exact i0)
      exact .cons ⟨h1, a, vs, h2, by rw [upd_ne ne]; exact h3, h4⟩ (i4 xs' vs' r)
/- an empty dict of one's own becomes one with lists of one's own -/
theorem jb_open {S R' : Type} {Γs : S → List En} {k : Rk R'} {i : Nat} {α : Type} {C : Cd α} {sts : List Stmt} {m : Option (Out S R')} (hg : Γ[i]? = some (.mu (mD (cL C) []))) (hno : ∀ e ∈ Γ, ∀ χ, e ≠ .ow χ) (h : JB X b sts (Γ.set i (.ow (mDL C []))) Γs k m) : JB X b sts Γ Γs k m := by
  intro F0 H0 σ F H A o ho D P
  refine h F0 H0 σ F H ?_ o ho D P
  have hlen : i < Γ.length := (List.getElem?_eq_some_iff.mp hg).1
  have no : ∀ (j : Nat) (χ : OFact), Γ[j]? ≠ some (.ow χ) := fun j χ e => hno _ (List.mem_of_getElem? e) χ rfl
  have muback : ∀ (j : Nat) (ψ : MFact), (Γ.set i (.ow (mDL C [])))[j]? = some (.mu ψ) → i ≠ j ∧ Γ[j]? = some (.mu ψ) := fun j ψ e => set_back e (fun z => nomatch z)
  obtain ⟨l, ob, h1, h2, h3, h4, vs, rfl, h6⟩ := A.mu i _ hg
  cases h6
  refine ⟨A.gr, A.nl, by rw [List.length_set]; exact A.len, fun j φ e => A.fz j φ (set_back e (fun z => nomatch z)).2, fun j ψ e => A.mu j ψ (muback j ψ e).2, fun j k ψ1 ψ2 m e1 e2 e3 e4 => A.ne j k ψ1 ψ2 m (muback j _ e1).2 (muback k _ e2).2 e3 e4, fun j χ e => ?_, fun j k χ1 χ2 e1 e2 => ?_⟩
  · by_cases q : i = j
    · subst q
      rw [List.getElem?_set_self hlen] at e
      cases e
      refine ⟨l, _, fun _ => none, h1, h2, h3, h4, rfl, fun _ _ z => (by cases z), ⟨[], rfl, .nil, ⟨List.nodup_nil, List.nodup_nil⟩, fun _ _ z => (by cases z)⟩, fun k ψ m e1 e2 => ⟨fun z => ?_, rfl⟩⟩
      subst z
      obtain ⟨n, e1'⟩ := muback k ψ e1
      exact n (A.ne i k _ ψ m hg e1' h1 e2)
    · rw [List.getElem?_set_ne q] at e
      exact absurd e (no j χ)
  · by_cases q : i = j
    · by_cases q' : i = k
      · exact q.symm.trans q'
      · rw [List.getElem?_set_ne q'] at e2; exact absurd e2 (no k χ2)
    · rw [List.getElem?_set_ne q] at e1; exact absurd e1 (no j χ1)
theorem OwAt.grow {F0 H0 F H F' H' : Hp} {σ : St} {i : Nat} {χ : OFact} {l : Addr} {o : HO} {R : Hp} (w : OwAt H0 Γ σ F H i χ l o R) (g : Grow F H F' H') : OwAt H0 Γ σ F' H' i χ l o R :=
  w.to rfl (fun a u h1 h2 h3 _ => ⟨g.hs _ _ h1, g.stays h2 h1, h3⟩) g.fs fun j ψ m e1 e2 => .inl ⟨ψ, e1, e2⟩
/- x[k] = a new list, k not yet a key -/
def pPutN {α : Type} (kvs : List (Int × List α)) (k : Int) (xs : List α) : Option (List (Int × List α)) := if k ∉ kvs.map (·.1) ∧ kvs.length < 1000000 then some (kvs ++ [(k, xs)]) else none
theorem jb_putO {S R' : Type} {Γs : S → List En} {k : Rk R'} {rest : List Stmt} {i : Nat} {x : Str} {p pos pos' : Pos} {e kx : Expr} {α : Type} {C : Cd α} {kvs : List (Int × List α)} {m : Option (List α)} {mk : Option Int} {f : List (Int × List α) → Option (Out S R')} (hu : X.A.units + 1 < cLine) (hN : X.N[i]? = some x) (hv : Vis X.env.scope x) (hg : Γ[i]? = some (.ow (mDL C kvs)))
    (he : JE X b e Γ (nw (mL C)) m) (hk : JE X b kx Γ (fr cI) mk) (hr : ∀ ys, JB X b rest (Γ.set i (.ow (mDL C ys))) Γs k (f ys)) (hs : swapsWith e (some (.Subscript (.Name x p) kx pos')) pos.line X.env = pure false := by rfl)
    (hd : (x == ("__debug__" : Str)) = false := by decide) (hcd : (x == ("__classdict__" : Str)) = false := by decide) :
    JB X b (.Assign [.Subscript (.Name x p) kx pos'] e pos :: rest) Γ Γs k ((m.bind fun a => mk.bind fun k => pPutN kvs k a).bind f) := by
  intro F0 H0 σ F H A o ho D P
  obtain ⟨ys, e0, e2⟩ := bind_some ho
  obtain ⟨a, e1, e3⟩ := bind_some e0
  obtain ⟨kk, e4, e5⟩ := bind_some e3
  unfold pPutN at e5
  by_cases c : kk ∉ kvs.map (·.1) ∧ kvs.length < 1000000
  case neg => rw [if_neg c] at e5; cases e5
  rw [if_pos c] at e5
  cases e5
  refine wS_of (pss_cons (ps_dput hu (pe_var hN hv hd hcd) pe_w pe_w hs) pss_w) ?_
  obtain ⟨l, ob, R, w⟩ := A.ow i _ hg
  refine he F0 H0 σ F H A a e1 _ fun v F1 H1 g1 r1 => ?_
  obtain ⟨q, oq, rfl, r1, r2, r3, vq, rfl, r4⟩ := r1
  refine ⟨_, w.1, ?_⟩
  refine hk F0 H0 σ F1 H1 (A.grow g1) kk e4 _ fun w2 F2 H2 g2 r5 => ?_
  cases (show w2 = .int kk from r5)
  have g := g1.trans g2
  have wg := w.grow (F0 := F0) g
  have ql : q ≠ l := fun z => by have := w.2.1; rw [← z, r1] at this; cases this
  have qR : R q = none := by
    cases z : R q with
    | none => rfl
    | some u => have := (w.2.2.2.2.2.1 q u z).1; rw [r1] at this; cases this
  obtain ⟨w1, w2', w3, w4, w5, w6, ⟨ks, rfl, w7, ⟨w7a, w7b⟩, w7c⟩, w8⟩ := id wg
  have nk : (ks.any fun kv => decide (kv.1 = (Sum.inl kk : Key))) = false := by
    rw [Bool.eq_false_iff]
    intro z
    obtain ⟨kv, z1, z2⟩ := List.any_eq_true.mp z
    obtain ⟨j, hj, rfl⟩ := List.getElem_of_mem z1
    obtain ⟨pa, p1, p2⟩ := paired_ix w7 (List.getElem?_eq_getElem hj)
    exact c.1 (List.mem_map.mpr ⟨pa, List.mem_of_getElem? p1, by have := p2.1; rw [of_decide_eq_true z2] at this; exact (Sum.inl.inj this).symm⟩)
  have ep : putK ks (Sum.inl kk) (.ref q) = ks ++ [(Sum.inl kk, .ref q)] := by unfold putK; rw [if_neg (by rw [nk]; exact Bool.false_ne_true)]
  have fresh : V.ref q ∉ ks.map (·.2) := fun z => by
    obtain ⟨kv, z1, z2⟩ := List.mem_map.mp z
    obtain ⟨j, hj, rfl⟩ := List.getElem_of_mem z1
    obtain ⟨pa, p1, p2⟩ := paired_ix w7 (List.getElem?_eq_getElem hj)
    obtain ⟨_, a', vs', h2, h3, _⟩ := p2
    rw [h2] at z2
    cases z2
    rw [qR] at h3; cases h3
  refine ⟨l, _, rfl, DPut.k (k := Sum.inl kk) w2' (by rw [← paired_len w7]; exact Nat.lt_trans c.2 (by decide)), ?_⟩
  refine hr _ F0 H0 σ F2 _ ((A.grow g).chgO (χ' := mDL C (kvs ++ [(kk, a)])) (o' := .dK (ks ++ [(Sum.inl kk, .ref q)])) (R' := upd R q (.lst vq)) hg wg (fun a' h1 _ => by rw [upd_ne h1]) (by rw [upd_same, ep]) (by rw [upd_ne (Ne.symm ql)]; exact w5) (fun a' u e => ?_) ⟨_, rfl, paired_app (paired_mono w7 fun _ _ ⟨t1, b1, v1, t2, t3, t4⟩ => ⟨t1, b1, v1, t2, by rw [upd_ne (fun z => by rw [z, qR] at t3; cases t3)]; exact t3, t4⟩) (.cons ⟨rfl, q, vq, rfl, upd_same, paired_mono r4 fun _ _ z => C.mono _ _ _ _ g2.fs z⟩ .nil), ⟨?_, ?_⟩, fun a' u e => ?_⟩) o e2 D P
  · by_cases z : a' = q
    · subst z
      rw [upd_same] at e
      cases e
      refine ⟨by rw [upd_ne ql]; exact g2.hs _ _ r2, g2.stays r3 r2, A.gr.hs.free r1, fun j ψ m e1 e2 z => ?_⟩
      obtain ⟨m', om, y1, y2, _⟩ := A.mu j ψ e1
      rw [e2] at y1
      cases y1
      rw [z, r1] at y2; cases y2
    · rw [upd_ne z] at e
      obtain ⟨y1, y2, y3⟩ := w6 a' u e
      have nl : a' ≠ l := fun z => by rw [z, w5] at e; cases e
      exact ⟨by rw [upd_ne nl]; exact y1, y2, y3, fun j ψ m e1 e2 z => by have := (w8 j ψ m e1 e2).2; rw [z, e] at this; cases this⟩
  · rw [List.map_append, List.nodup_append]
    refine ⟨w7a, by simp, fun u hu v hv => ?_⟩
    rw [List.mem_singleton.mp hv]
    exact fun (z : u = V.ref q) => fresh (z ▸ hu)
  · rw [List.map_append, List.nodup_append]
    refine ⟨w7b, by simp, fun u hu v hv => ?_⟩
    rw [List.mem_singleton.mp hv]
    exact fun (z : u = kk) => c.1 (z ▸ hu)
  · by_cases z : a' = q
    · subst z; rw [upd_same] at e; exact ⟨_, (Option.some.inj e).symm⟩
    · rw [upd_ne z] at e; exact w7c a' u e
/- x[k].append(e) -/
def pAppAt {α : Type} (kvs : List (Int × List α)) (k : Int) (a : α) : Option (List (Int × List α)) := (lookD kvs k).bind fun xs => if xs.length < 1000000 then some (setV kvs k (xs ++ [a])) else none
theorem jb_appO {S R' : Type} {Γs : S → List En} {k : Rk R'} {rest : List Stmt} {i : Nat} {x : Str} {p spos apos cpos pos : Pos} {e kx : Expr} {α : Type} {C : Cd α} {kvs : List (Int × List α)} {m : Option α} {mk : Option Int} {f : List (Int × List α) → Option (Out S R')} (hu : X.A.units + 1 < cLine) (hN : X.N[i]? = some x) (hv : Vis X.env.scope x) (hg : Γ[i]? = some (.ow (mDL C kvs)))
    (he : JE X b e Γ (fr C) m) (hk : JE X b kx Γ (fr cI) mk) (hr : ∀ ys, JB X b rest (Γ.set i (.ow (mDL C ys))) Γs k (f ys)) (hns : NoSl kx := by intro _ _; rfl) (hbase : attributeBase (.Subscript (.Name x p) kx spos) "append" X.env (eval (.Subscript (.Name x p) kx spos) X.env) = eval (.Subscript (.Name x p) kx spos) X.env := by rfl)
    (hfew : ((backTo cpos (starEach (e :: []) X.env)).all (fun x => !x.1) && (backToKw cpos (keywordEach [] X.env)).all (fun x => x.1.isSome) && decide ((e :: []).length + ([] : List Keyword).length + (if ([] : List Keyword).isEmpty then 0 else 1) < 30)) = true := by rfl)
    (hline : (apos.endLine == cpos.line) = true := by rfl) (hs : starEach [e] X.env = (false, eval e X.env) :: starEach [] X.env := by rfl) (hsw : swapsWith (.Call (.Attribute (.Subscript (.Name x p) kx spos) "append" apos) [e] [] cpos) none pos.line X.env = pure false := by rfl)
    (hd : (x == ("__debug__" : Str)) = false := by decide) (hcd : (x == ("__classdict__" : Str)) = false := by decide) :
    JB X b (.Expr (.Call (.Attribute (.Subscript (.Name x p) kx spos) "append" apos) [e] [] cpos) pos :: rest) Γ Γs k ((mk.bind fun k => m.bind fun a => pAppAt kvs k a).bind f) := by
  intro F0 H0 σ F H A o ho D P
  obtain ⟨ys, e0, e2⟩ := bind_some ho
  obtain ⟨kk, e4, e3⟩ := bind_some e0
  obtain ⟨a, e1, e5⟩ := bind_some e3
  obtain ⟨xs, e6, e7⟩ := bind_some e5
  by_cases c : xs.length < 1000000
  case neg => rw [if_neg c] at e7; cases e7
  rw [if_pos c] at e7
  cases e7
  refine wS_of (pss_cons (ps_expr (pe_bm PySem.F.plainAttrs_list PySem.F.slot_list_append PySem.F.type_list_append mt_append (pe_dget hu (pe_var hN hv hd hcd) pe_w hns) (pa_cons pe_w pa_nil hs) hbase hfew hline hs rfl) hsw) pss_w) ?_
  obtain ⟨l, ob, R, w⟩ := A.ow i _ hg
  refine ⟨_, w.1, ?_⟩
  refine hk F0 H0 σ F H A kk e4 _ fun w2 F1 H1 g1 r5 => ?_
  cases (show w2 = .int kk from r5)
  obtain ⟨_, x2, _, _, _, x6, ⟨ks, rfl, x7, ⟨x7a, x7b⟩, x7c⟩, _⟩ := id (w.grow (F0 := F0) g1)
  obtain ⟨q, vs, q1, _, q3, _, _⟩ := own_row x7 x7a x7b e6
  refine ⟨l, .ref q, rfl, ?_, ?_⟩
  · rw [← q1]; exact DGet.k (k := Sum.inl kk) x2
  refine ⟨.inl ⟨rfl, vs, SqL.of (x6 q _ q3).1⟩, ?_⟩
  refine he F0 H0 σ F1 H1 (A.grow g1) a e1 _ fun v F2 H2 g2 r => ?_
  have g := g1.trans g2
  have wg := w.grow (F0 := F0) g
  obtain ⟨w1, w2', w3, w4, w5, w6, ⟨ks2, ek, w7, ⟨w7a, w7b⟩, w7c⟩, w8⟩ := id wg
  cases ek
  obtain ⟨q', vs', q1', _, q3', q4', q5'⟩ := own_row w7 w7a w7b e6
  rw [q1] at q1'
  cases q1'
  rw [q3] at q3'
  cases q3'
  have hq2 := (w6 q _ q3).1
  have ql : q ≠ l := fun z => by rw [z, w5] at q3; cases q3
  refine ⟨q, vs, v, rfl, rfl, hq2, by rw [← paired_len q4']; exact Nat.lt_trans c (by decide), ?_⟩
  refine hr _ F0 H0 σ F2 _ ((A.grow g).chgO (χ' := mDL C (setV kvs kk (xs ++ [a]))) (o' := .dK ks) (R' := upd R q (.lst (vs ++ [v]))) hg wg (fun a' h1 h2 => ?_) (by rw [upd_ne (Ne.symm ql)]; exact w2') (by rw [upd_ne (Ne.symm ql)]; exact w5) (fun a' u e => ?_) ⟨_, rfl, q5' _ _ (paired_app q4' (.cons r .nil)), ⟨w7a, by rw [setV_keys]; exact w7b⟩, fun a' u e => ?_⟩) o e2 D P
  · by_cases z : a' = q
    · subst z; rw [upd_same] at h2; cases h2
    · rw [upd_ne z]
  · by_cases z : a' = q
    · subst z
      rw [upd_same] at e
      cases e
      exact ⟨upd_same, (w6 a' _ q3).2.1, (w6 a' _ q3).2.2, fun j ψ m e1 e2 z => by have := (w8 j ψ m e1 e2).2; rw [z, q3] at this; cases this⟩
    · rw [upd_ne z] at e
      exact ⟨by rw [upd_ne z]; exact (w6 a' u e).1, (w6 a' u e).2.1, (w6 a' u e).2.2, fun j ψ m e1 e2 z => by have := (w8 j ψ m e1 e2).2; rw [z, e] at this; cases this⟩
  · by_cases z : a' = q
    · subst z; rw [upd_same] at e; exact ⟨_, (Option.some.inj e).symm⟩
    · rw [upd_ne z] at e; exact w7c a' u e
/- a new dict of one's own with lists of one's own, as a result -/
def nwo {α : Type} (C : Cd α) : Rk (List (Int × List α)) where
  p := fun kvs v H F' H' => ∃ l o R, v = .ref l ∧ H l = none ∧ H' l = some o ∧ F' l = none ∧ R l = none ∧ (∀ a u, R a = some u → H' a = some u ∧ F' a = none ∧ H a = none) ∧ (mDL C kvs).p l o R F'
  back := fun a v H H1 F' H' s h => by
    obtain ⟨l, o, R, h1, h2, h3, h4, h5, h6, h7⟩ := h
    exact ⟨l, o, R, h1, s.free h2, h3, h4, h5, fun m u e => ⟨(h6 m u e).1, (h6 m u e).2.1, s.free (h6 m u e).2.2⟩, h7⟩
  fwd := fun a v H F' H' F'' H'' s g h => by
    obtain ⟨l, o, R, h1, h2, h3, h4, h5, h6, h7⟩ := h
    exact ⟨l, o, R, h1, h2, g.hs _ _ h3, g.stays h4 h3, h5, fun m u e => ⟨g.hs _ _ (h6 m u e).1, g.stays (h6 m u e).2.1 (h6 m u e).1, (h6 m u e).2.2⟩, (mDL C a).mono _ _ _ _ _ g.fs h7⟩
  unl := fun a v H0 F' H' d x u ⟨l, o, R, h1, h2, h3, h4, h5, h6, h7⟩ => by
    have ne : ∀ m, (upd H0 d x) m = none → m ≠ d := fun m h z => by rw [z, upd_same] at h; cases h
    have nl := ne l h2
    rw [upd_ne nl] at h2
    refine ⟨l, o, R, h1, h2, by rw [upd_ne nl]; exact h3, h4, h5, fun m w e => ?_, h7⟩
    obtain ⟨y1, y2, y3⟩ := h6 m w e
    have nm := ne m y3
    rw [upd_ne nm] at y3
    exact ⟨by rw [upd_ne nm]; exact y1, y2, y3⟩
theorem jb_retO {S : Type} {Γs : S → List En} {rest : List Stmt} {i : Nat} {x : Str} {p pos : Pos} {α : Type} {C : Cd α} {kvs : List (Int × List α)} (hN : X.N[i]? = some x) (hv : Vis X.env.scope x) (hg : Γ[i]? = some (.ow (mDL C kvs))) (hd : (x == ("__debug__" : Str)) = false := by decide) (hcd : (x == ("__classdict__" : Str)) = false := by decide) :
    JB X b (.Return (some (.Name x p)) pos :: rest) Γ Γs (nwo C) (some (.rt kvs)) := by
  intro F0 H0 σ F H A o ho D P
  cases ho
  refine wS_of (pss_cons (ps_ret (pe_var hN hv hd hcd)) (pss_never (sts := rest))) ?_
  obtain ⟨l, o, R, w1, w2, w3, w4, w5, w6, w7, w8⟩ := A.ow i _ hg
  exact ⟨_, w1, P _ F H A.gr ⟨l, o, R, rfl, w4, w2, w3, w5, w6, w7⟩⟩
theorem jb_asgO {S R' : Type} {Γs : S → List En} {k : Rk R'} {rest : List Stmt} {i : Nat} {x : Str} {e : Expr} {pos pos' : Pos} {α : Type} {C : Cd α} {m : Option (List (Int × List α))} {f : List (Int × List α) → Option (Out S R')} (hN : X.N.Nodup) (hi : X.N[i]? = some x) (hx : Loc X.env.scope x) (hno : ∀ e ∈ Γ, ∀ χ, e ≠ .ow χ)
    (he : JE X b e Γ (nwo C) m) (hr : ∀ a, JB X b rest (Γ.set i (.ow (mDL C a))) Γs k (f a)) (hs : swapsWith e (some (.Name x pos')) pos.line X.env = pure false := by rfl)
    (hf : X.fn x = true ∨ X.env.scope.names.lookup x = some .local := by first | exact .inl rfl | exact .inr rfl | assumption) : JB X b (.Assign [.Name x pos'] e pos :: rest) Γ Γs k (m.bind f) := by
  intro F0 H0 σ F H A o ho D P
  obtain ⟨a, h1, h2⟩ := bind_some ho
  refine wS_of (pss_cons (ps_set hN hi hx pe_w hs hf) pss_w) ?_
  refine he F0 H0 σ F H A a h1 _ fun v F' H' g q => ?_
  obtain ⟨l, ob, R, rfl, q1, q2, q3, q4, q5, q6⟩ := q
  refine hr a F0 H0 _ F' H' ?_ o h2 D P
  have S := A.grow g
  have no : ∀ (j : Nat) (χ : OFact), Γ[j]? ≠ some (.ow χ) := fun j χ e => hno _ (List.mem_of_getElem? e) χ rfl
  have muback : ∀ (j : Nat) (ψ : MFact), (Γ.set i (.ow (mDL C a)))[j]? = some (.mu ψ) → i ≠ j ∧ Γ[j]? = some (.mu ψ) := fun j ψ e => set_back e (fun z => nomatch z)
  have young : ∀ (j : Nat) (ψ : MFact) (m : Addr), Γ[j]? = some (.mu ψ) → σ[j]? = some (some (.ref m)) → H m ≠ none := fun j ψ m e1 e2 z => by
    obtain ⟨m', om, y1, y2, _⟩ := A.mu j ψ e1
    rw [e2] at y1
    cases y1
    rw [z] at y2; cases y2
  refine ⟨S.gr, S.nl, by rw [List.length_set, List.length_set]; exact S.len, fun j φ e => ?_, fun j ψ e => ?_, fun j k ψ1 ψ2 m e1 e2 e3 e4 => ?_, fun j χ e => ?_, fun j k χ1 χ2 e1 e2 => ?_⟩
  · obtain ⟨n, e'⟩ := set_back e (fun z => nomatch z)
    rw [List.getElem?_set_ne n]; exact S.fz j φ e'
  · obtain ⟨n, e'⟩ := muback j ψ e
    rw [List.getElem?_set_ne n]; exact S.mu j ψ e'
  · obtain ⟨n1, e1'⟩ := muback j ψ1 e1
    obtain ⟨n2, e2'⟩ := muback k ψ2 e2
    rw [List.getElem?_set_ne n1] at e3
    rw [List.getElem?_set_ne n2] at e4
    exact S.ne j k ψ1 ψ2 m e1' e2' e3 e4
  · by_cases q : i = j
    · subst q
      by_cases hlen : i < Γ.length
      · rw [List.getElem?_set_self hlen] at e
        cases e
        refine ⟨l, ob, R, by rw [List.getElem?_set_self (by rw [A.len]; exact hlen)], q2, q3, A.gr.hs.free q1, q4, fun a u e => ⟨(q5 a u e).1, (q5 a u e).2.1, A.gr.hs.free (q5 a u e).2.2⟩, q6, fun k ψ m e1 e2 => ?_⟩
        obtain ⟨n, e1'⟩ := muback k ψ e1
        rw [List.getElem?_set_ne n] at e2
        have y := young k ψ m e1' e2
        refine ⟨fun z => y (by rw [z]; exact q1), ?_⟩
        cases z : R m with
        | none => rfl
        | some u => exact absurd (q5 m u z).2.2 y
      · rw [List.getElem?_eq_none (by rw [List.length_set]; omega)] at e; cases e
    · rw [List.getElem?_set_ne q] at e
      exact absurd e (no j χ)
  · by_cases q : i = j
    · by_cases q' : i = k
      · exact q.symm.trans q'
      · rw [List.getElem?_set_ne q'] at e2; exact absurd e2 (no k χ2)
    · rw [List.getElem?_set_ne q] at e1; exact absurd e1 (no j χ1)
/- raise, where the mirror says nothing -/
theorem jb_raise {S R' : Type} {Γs : S → List En} {k : Rk R'} {sts : List Stmt} : JB X b sts Γ Γs k (none : Option (Out S R')) := fun _ _ _ _ _ _ _ e => by cases e
inductive NoOw : List En → Prop
  | nil : NoOw []
  | no {Γ : List En} : NoOw Γ → NoOw (.no :: Γ)
  | fz {Γ : List En} {φ : Fact} : NoOw Γ → NoOw (.fz φ :: Γ)
  | mu {Γ : List En} {ψ : MFact} : NoOw Γ → NoOw (.mu ψ :: Γ)
theorem NoOw.ne {Γ : List En} (h : NoOw Γ) : ∀ e ∈ Γ, ∀ χ, e ≠ .ow χ := by
  induction h with
  | nil => intro e he; cases he
  | no _ ih => intro e he χ z; rcases List.mem_cons.mp he with rfl | q; (cases z); exact ih e q χ z
  | fz _ ih => intro e he χ z; rcases List.mem_cons.mp he with rfl | q; (cases z); exact ih e q χ z
  | mu _ ih => intro e he χ z; rcases List.mem_cons.mp he with rfl | q; (cases z); exact ih e q χ z
/- x = {} that is to hold lists of one's own -/
theorem jb_asgD {S R' : Type} {Γs : S → List En} {k : Rk R'} {rest : List Stmt} {i : Nat} {x : Str} {dpos pos pos' : Pos} {α : Type} {C : Cd α} {m : Option (Out S R')} (hN : X.N.Nodup) (hi : X.N[i]? = some x) (hx : Loc X.env.scope x) (hno : ∀ e ∈ Γ.set i (.mu (mD (cL C) [])), ∀ χ, e ≠ .ow χ)
    (hr : JB X b rest (Γ.set i (.ow (mDL C []))) Γs k m) (hs : swapsWith (.Dict [] [] dpos) (some (.Name x pos')) pos.line X.env = pure false := by rfl)
    (hf : X.fn x = true ∨ X.env.scope.names.lookup x = some .local := by first | exact .inl rfl | exact .inr rfl | assumption) : JB X b (.Assign [.Name x pos'] (.Dict [] [] dpos) pos :: rest) Γ Γs k m := by
  have he : JE X b (.Dict [] [] dpos) Γ (nw fun _ : Unit => mD (cL C) []) (some ()) := by
    intro F0 H0 σ F H A z ez Q q
    refine wE_of pe_dnewK fun p hp => ?_
    exact q _ F _ (grow_new A.gr.fx hp fun z => z) ⟨p, _, rfl, hp, upd_same, A.gr.fx.emp hp, [], rfl, .nil⟩
  refine jb_asgN (m := some ()) (f := fun _ => m) hN hi hx he (fun _ => ?_) hs hf
  by_cases hlen : i < Γ.length
  · refine jb_open (i := i) (C := C) (by rw [List.getElem?_set_self hlen]) hno ?_
    rw [List.set_set]; exact hr
  · rw [List.set_eq_of_length_le (by omega)] at hr ⊢
    exact hr
/- is not, of two bools -/
def rIsntB : R2 := fun x y H Q => ∃ i j : Bool, x = .bl i ∧ y = .bl j ∧ Q (.bl (!decide (i = j))) H
theorem op_isntB : OpR X (compareOp .IsNot) rIsntB := by
  intro pins s σ H x y v u Q I rx ry h
  obtain ⟨i, j, rfl, rfl, q⟩ := h
  cases rx
  cases ry
  refine wpAny_isNot_plain (by cases i <;> cases j <;> rfl) (fin_bl I q ?_)
  cases i <;> cases j <;> rfl
theorem r2_isntB : R2Ok rIsntB cB cB (fr cB) (fun i j => some (!decide (i = j))) := by
  intro i j vx vy F H fx h1 h2 z ez Q q
  cases h1; cases h2; cases ez
  exact ⟨i, j, rfl, rfl, q _ F H (Grow.refl fx) rfl⟩
/- x[k][i] = v -/
def pSetAt {α : Type} (kvs : List (Int × List α)) (k i : Int) (a : α) : Option (List (Int × List α)) := (lookD kvs k).bind fun xs => (setI xs i a).map fun ys => setV kvs k ys
theorem jb_setO {S R' : Type} {Γs : S → List En} {k : Rk R'} {rest : List Stmt} {i : Nat} {x : Str} {p spos pos pos' : Pos} {e kx ix : Expr} {α : Type} {C : Cd α} {kvs : List (Int × List α)} {m : Option α} {mk mi : Option Int} {f : List (Int × List α) → Option (Out S R')} (hu : X.A.units + 1 < cLine) (hN : X.N[i]? = some x) (hv : Vis X.env.scope x) (hg : Γ[i]? = some (.ow (mDL C kvs)))
    (he : JE X b e Γ (fr C) m) (hk : JE X b kx Γ (fr cI) mk) (hi : JE X b ix Γ (fr cI) mi) (hr : ∀ ys, JB X b rest (Γ.set i (.ow (mDL C ys))) Γs k (f ys)) (hns : NoSl kx := by intro _ _; rfl) (hs : swapsWithSole [.Subscript (.Subscript (.Name x p) kx spos) ix pos'] e pos.line X.env = pure false := by rfl) (hw : swappedStores [.Subscript (.Subscript (.Name x p) kx spos) ix pos'] e X.env = pure none := by rfl)
    (h1' : (assignEach [.Subscript (.Subscript (.Name x p) kx spos) ix pos'] X.env).map (·.2) = [assign (.Subscript (.Subscript (.Name x p) kx spos) ix pos') X.env] := by rfl)
    (ha : ∀ v, assign (.Subscript (.Subscript (.Name x p) kx spos) ix pos') X.env v = (do
      let ov ← holding [v] (eval (.Subscript (.Name x p) kx spos) X.env)
      let iv ← holding [v, ov] (eval ix X.env)
      standAt pos'
      holding [v, ov, iv] (setItem ov iv v)
      release [v, ov, iv] []) := by intro _; rfl)
    (hd : (x == ("__debug__" : Str)) = false := by decide) (hcd : (x == ("__classdict__" : Str)) = false := by decide) :
    JB X b (.Assign [.Subscript (.Subscript (.Name x p) kx spos) ix pos'] e pos :: rest) Γ Γs k ((m.bind fun a => mk.bind fun k => mi.bind fun i => pSetAt kvs k i a).bind f) := by
  intro F0 H0 σ F H A o ho D P
  obtain ⟨ys, e0, e2⟩ := bind_some ho
  obtain ⟨a, e1, e3⟩ := bind_some e0
  obtain ⟨kk, e4, e5⟩ := bind_some e3
  obtain ⟨ii, e6, e7⟩ := bind_some e5
  obtain ⟨xs, e8, e9⟩ := bind_some e7
  cases e10 : setI xs ii a with
  | none => rw [e10] at e9; cases e9
  | some zs =>
  rw [e10] at e9
  cases e9
  obtain ⟨j, e11, e12⟩ := bind_some e10
  cases e12
  refine wS_of (pss_cons (ps_asg pe_w (pg_sub (pe_dget hu (pe_var hN hv hd hcd) pe_w hns) pe_w set_list ha) hs hw h1') pss_w) ?_
  obtain ⟨l, ob, R, w⟩ := A.ow i _ hg
  refine he F0 H0 σ F H A a e1 _ fun v F1 H1 g1 r1 => ?_
  refine ⟨_, w.1, ?_⟩
  refine hk F0 H0 σ F1 H1 (A.grow g1) kk e4 _ fun w2 F2 H2 g2 r2 => ?_
  cases (show w2 = .int kk from r2)
  have g12 := g1.trans g2
  obtain ⟨_, x2, _, _, _, x6, ⟨ks, rfl, x7, ⟨x7a, x7b⟩, x7c⟩, _⟩ := id (w.grow (F0 := F0) g12)
  obtain ⟨q, vs, q1, _, q3, _, _⟩ := own_row x7 x7a x7b e8
  refine ⟨l, .ref q, rfl, ?_, ?_⟩
  · rw [← q1]; exact DGet.k (k := Sum.inl kk) x2
  refine hi F0 H0 σ F2 H2 (A.grow g12) ii e6 _ fun w3 F3 H3 g3 r3 => ?_
  cases (show w3 = .int ii from r3)
  have g := g12.trans g3
  have wg := w.grow (F0 := F0) g
  obtain ⟨w1, w2', w3, w4, w5, w6, ⟨ks2, ek, w7, ⟨w7a, w7b⟩, w7c⟩, w8⟩ := id wg
  cases ek
  obtain ⟨q', vs', q1', _, q3', q4', q5'⟩ := own_row w7 w7a w7b e8
  rw [q1] at q1'
  cases q1'
  rw [q3] at q3'
  cases q3'
  have hq2 := (w6 q _ q3).1
  have ql : q ≠ l := fun z => by rw [z, w5] at q3; cases q3
  refine ⟨q, vs, ii, j, rfl, rfl, hq2, by rw [← paired_len q4']; exact e11, ?_⟩
  refine hr _ F0 H0 σ F3 _ ((A.grow g).chgO (χ' := mDL C (setV kvs kk (xs.set j a))) (o' := .dK ks) (R' := upd R q (.lst (vs.set j v))) hg wg (fun a' h1 h2 => ?_) (by rw [upd_ne (Ne.symm ql)]; exact w2') (by rw [upd_ne (Ne.symm ql)]; exact w5) (fun a' u e => ?_) ⟨_, rfl, q5' _ _ (paired_set (G := fun a v => C.rep a v F3) (C.mono _ _ _ _ (g2.fs.trans g3.fs) r1) j q4'), ⟨w7a, by rw [setV_keys]; exact w7b⟩, fun a' u e => ?_⟩) o e2 D P
  · by_cases z : a' = q
    · subst z; rw [upd_same] at h2; cases h2
    · rw [upd_ne z]
  · by_cases z : a' = q
    · subst z
      rw [upd_same] at e
      cases e
      exact ⟨upd_same, (w6 a' _ q3).2.1, (w6 a' _ q3).2.2, fun j ψ m e1 e2 z => by have := (w8 j ψ m e1 e2).2; rw [z, q3] at this; cases this⟩
    · rw [upd_ne z] at e
      exact ⟨by rw [upd_ne z]; exact (w6 a' u e).1, (w6 a' u e).2.1, (w6 a' u e).2.2, fun j ψ m e1 e2 z => by have := (w8 j ψ m e1 e2).2; rw [z, e] at this; cases this⟩
  · by_cases z : a' = q
    · subst z; rw [upd_same] at e; exact ⟨_, (Option.some.inj e).symm⟩
    · rw [upd_ne z] at e; exact w7c a' u e
end
end Cw
/- CwExp11: a dict whose keys are nested tuples, with whole numbers as values. -/
namespace Cw
open PySem PySem.Spec L2
open PyProof.Rows hiding St
/- ## the object -/
def rowN (p : NestedKey × Addr × V) (q : NestedKey × Addr × Value) : Prop := p.1 = q.1 ∧ p.2.1 = q.2.1 ∧ RelV p.2.2 q.2.2
def NDict (P : Program) (w : World) (d : Addr) (xs : List (NestedKey × Addr × V)) : HO := .ext fun h => xs.length ≤ sizeLine ∧ (d == sysModules) = false ∧ ∃ ys : List (NestedKey × Addr × Value), Paired rowN xs ys ∧
  ∃ o es ep, h.get? d = some o ∧ o.ExactDict ∧ o.data = .dict es ep ∧ es.toList = ys.map (entryOfKey (nestedKind P w)) ∧ (ys.map (·.1)).Nodup
theorem ndict_ok {P : Program} {w : World} {H : Hp} {h : Heap} {d : Addr} {xs : List (NestedKey × Addr × V)} {ys : List (NestedKey × Addr × Value)} (hl : xs.length ≤ sizeLine) (hd : (d == sysModules) = false) (r : Paired rowN xs ys) (m : h.DictOfH (nestedKind P w) d ys) : ObjOk P w H h d (NDict P w d xs) := by
  obtain ⟨o, es, ep, ho, h1, h2, h3, _, h5⟩ := m
  refine ⟨⟨hl, hd, ys, r, o, es, ep, ho, h1, h2, h3, h5⟩, ⟨o, ho⟩, fun ha hb p k => ?_⟩
  obtain ⟨a1, a2, ys', a3, o', es', ep', b1, b2⟩ := p
  exact ⟨a1, a2, ys', a3, o', es', ep', k _ b1, b2⟩
theorem ndict_addr {P : Program} {w : World} {H : Hp} {h : Heap} {l d : Addr} {xs : List (NestedKey × Addr × V)} (x : ObjOk P w H h l (NDict P w d xs)) : d = l := by
  obtain ⟨p, _, st⟩ := x
  refine Classical.byContradiction fun ne => ?_
  have q := st h (PySem.W.hideAll h [d]) p fun o e => PySem.W.hideAll_get [d] e fun z => ne (List.mem_singleton.mp z).symm
  obtain ⟨_, _, _, _, o, _, _, ho, _⟩ := q
  rw [PySem.W.hideAll_none [d] (List.mem_singleton.mpr rfl)] at ho
  cases ho
def KeysAt (P : Program) (w : World) (H : Hp) (xs : List (NestedKey × Addr × V)) : Prop := ∀ h, HOk P w H h → ∀ q ∈ xs, NestedIs h q.1 (.ref q.2.1) ∧ q.1.depth ≤ 8
theorem paired_r {α β : Type} {G : α → β → Prop} {xs : List α} {ys : List β} (h : Paired G xs ys) : ∀ y ∈ ys, ∃ x ∈ xs, G x y := by
  induction h with
  | nil => intro y hy; cases hy
  | cons g _ ih =>
    intro y hy
    rcases List.mem_cons.mp hy with rfl | hy
    · exact ⟨_, List.mem_cons_self, g⟩
    · obtain ⟨x, hx, q⟩ := ih y hy
      exact ⟨x, List.mem_cons_of_mem _ hx, q⟩
theorem ndict_at {X : Cx} {pins : List (Addr × Obj)} {σ : St} {H : Hp} {s : Shared} {l d : Addr} {xs : List (NestedKey × Addr × V)} (I : Inv X pins σ H s) (e : H l = some (NDict X.prog X.w d xs)) (ka : KeysAt X.prog X.w H xs) :
    d = l ∧ ∃ ys, Paired rowN xs ys ∧ s.heap.DictOfH (nestedKind X.prog X.w) l ys ∧ (l == sysModules) = false ∧ xs.length ≤ sizeLine := by
  have x := I.hok l _ e
  have ed := ndict_addr x
  subst ed
  obtain ⟨⟨h1, h2, ys, r, o, es, ep, ho, a1, a2, a3, a4⟩, _, _⟩ := x
  refine ⟨rfl, ys, r, ⟨o, es, ep, ho, a1, a2, a3, fun y hy => ?_, a4⟩, h2, h1⟩
  obtain ⟨q, hq, e1, e2, _⟩ := paired_r r y hy
  have := ka _ I.hok q hq
  rw [e1, e2] at this
  exact this
theorem find_rowN {xs : List (NestedKey × Addr × V)} {ys : List (NestedKey × Addr × Value)} (r : Paired rowN xs ys) (k : NestedKey) :
    (∀ q, xs.find? (fun q => decide (q.1 = k)) = some q → ∃ q', ys.find? (fun q => decide (q.1 = k)) = some q' ∧ rowN q q') ∧ (xs.find? (fun q => decide (q.1 = k)) = none → ys.find? (fun q => decide (q.1 = k)) = none) := by
  induction r with
  | nil => exact ⟨fun q e => (by cases e), fun _ => rfl⟩
  | @cons p p' ps ps' g _ ih =>
    by_cases c : p.1 = k
    · have c' : p'.1 = k := by rw [← g.1]; exact c
      refine ⟨fun q e => ?_, fun e => ?_⟩
      · rw [List.find?_cons_of_pos (by simpa using c)] at e
        cases e
        exact ⟨p', by rw [List.find?_cons_of_pos (by simpa using c')], g⟩
      · rw [List.find?_cons_of_pos (by simpa using c)] at e; cases e
    · have c' : ¬ p'.1 = k := by rw [← g.1]; exact c
      rw [List.find?_cons_of_neg (by simpa using c), List.find?_cons_of_neg (by simpa using c')]
      exact ih
section
variable {X : Cx}
/- ## the rules -/
def rNotInN (P : Program) (w : World) : R2 := fun x y H Q => ∃ (t l d : Addr) (k : NestedKey) (xs : List (NestedKey × Addr × V)), x = .ref t ∧ y = .ref l ∧ H l = some (NDict P w d xs) ∧ KeysAt P w H xs ∧ (∀ h, HOk P w H h → NestedIs h k (.ref t)) ∧ k.depth ≤ 8 ∧
  Q (.bl (!(xs.find? fun q => decide (q.1 = k)).isSome)) H
theorem find_same {xs : List (NestedKey × Addr × V)} {ys : List (NestedKey × Addr × Value)} (r : Paired rowN xs ys) (k : NestedKey) : (valueAt (pairsH ys) k).isSome = (xs.find? fun q => decide (q.1 = k)).isSome := by
  rw [valueAt_pairsH, Option.isSome_map]
  unfold atKey
  rw [Option.isSome_map]
  obtain ⟨f1, f2⟩ := find_rowN r k
  cases e : xs.find? fun q => decide (q.1 = k) with
  | none => rw [f2 e]; rfl
  | some q => obtain ⟨q', e', _⟩ := f1 q e; rw [e']; rfl
theorem op_notinN (hu : X.A.units + 64 < cLine) : OpR X (compareOp .NotIn) (rNotInN X.prog X.w) := by
  intro pins s σ H x y v u Q I rx ry h
  obtain ⟨t, l, d, k, xs, rfl, rfl, e, ka, kk, kd, q⟩ := h
  cases rx
  cases ry
  obtain ⟨rfl, ys, r, dd, hm, hz⟩ := ndict_at I e ka
  refine notIn_keyed (knd := nestedKind X.prog X.w) (k := k) (kvs := pairsH ys) (by show X.A.units + 1 + 8 < cLine; omega) ⟨kk _ I.hok, kd⟩ hm ⟨ys, dd, rfl⟩ ?_
  rw [find_same r k]
  exact ⟨.bl _, H, I.tok _, rfl, q⟩
def rGetN (P : Program) (w : World) : R2 := fun x y H Q => ∃ (t l d : Addr) (k : NestedKey) (xs : List (NestedKey × Addr × V)) (q : NestedKey × Addr × V), x = .ref l ∧ y = .ref t ∧ H l = some (NDict P w d xs) ∧ KeysAt P w H xs ∧ (∀ h, HOk P w H h → NestedIs h k (.ref t)) ∧ k.depth ≤ 8 ∧
  xs.find? (fun q => decide (q.1 = k)) = some q ∧ Q q.2.2 H
variable {o i value : Expr} {td ty tv : TE} {pos pos' : Pos}
theorem pe_nget (hu : X.A.units + 64 < cLine) (ho : PE X o td) (hi : PE X i ty) (hs : NoSl i) : PE X (.Subscript o i pos) (tOp (rGetN X.prog X.w) td ty) := by
  refine ⟨fun pins s σ H Q I h => ?_⟩
  refine subD_of PySem.F.slot_dict_getitem.lookup hs (thn (ho.run pins s σ H _ I h) fun u s1 ⟨x, H1, I1, rx, q1⟩ => thn (hi.run pins s1 σ H1 _ I1 q1) fun iv s2 ⟨y, H2, I2, ry, q2⟩ => ?_)
  obtain ⟨t, l, d, k, xs, q, rfl, rfl, e, ka, kk, kd, ef, hq⟩ := q2
  obtain rfl : u = Value.ref l := rx
  obtain rfl : iv = Value.ref t := ry
  obtain ⟨rfl, ys, r, dd, hm, hz⟩ := ndict_at I2 e ka
  obtain ⟨q', e', _, _, rq⟩ := (find_rowN r k).1 q ef
  refine ⟨dd.typeIs, ?_⟩
  refine getItem_keyed (knd := nestedKind X.prog X.w) (k := k) (kvs := pairsH ys) (v := q'.2.2) (by show X.A.units + 1 + 8 < cLine; omega) ⟨kk _ I2.hok, kd⟩ ⟨ys, dd, rfl⟩ ?_ ?_
  · rw [valueAt_pairsH]; unfold atKey; rw [e']; rfl
  · exact ⟨_, H2, I2.tok _, rq, hq⟩
theorem call_lenN : CallR X (.builtin "len") (fun zs H Q => ∃ l d xs, zs = [V.ref l] ∧ H l = some (NDict X.prog X.w d xs) ∧ KeysAt X.prog X.w H xs ∧ Q (.int xs.length) H) := by
  intro pins s σ H zs us Q I r h
  obtain ⟨l, d, xs, rfl, e, ka, q⟩ := h
  obtain ⟨u, rfl, ru⟩ := vals1 r
  cases ru
  obtain ⟨rfl, ys, r, dd, hm, hz⟩ := ndict_at I e ka
  have hl : (pairsH ys).length = xs.length := by rw [pairsH_length, Paired.length r]
  refine PyProof.Rows.call_len_slot (n := xs.length) dd.typeIs PySem.F.slot_dict_len (fun Q' hq => len_keyed (knd := nestedKind X.prog X.w) (kvs := pairsH ys) hm ⟨ys, dd, rfl⟩ (by rw [hl]; exact hq)) (by omega) (by rw [sizeLine_eq] at hz; omega) ?_
  exact ⟨.int xs.length, H, I.tok _, ⟨_, rfl⟩, q⟩
def sNPut (P : Program) (w : World) (td ty tv : TE) : TS := fun D σ H => tv σ H fun v H1 => td σ H1 fun x H2 => ty σ H2 fun y H3 => ∃ (t l d : Addr) (k : NestedKey) (xs : List (NestedKey × Addr × V)), x = .ref l ∧ y = .ref t ∧ H3 l = some (NDict P w d xs) ∧ KeysAt P w H3 xs ∧ (∀ h, HOk P w H3 h → NestedIs h k (.ref t)) ∧ k.depth ≤ 8 ∧
  xs.find? (fun q => decide (q.1 = k)) = none ∧ xs.length < sizeLine ∧ D.nx σ (upd H3 l (NDict P w l (xs ++ [(k, t, v)])))
theorem paired_app' {α β : Type} {G : α → β → Prop} {xs : List α} {ys : List β} {x : α} {y : β} (h : Paired G xs ys) (g : G x y) : Paired G (xs ++ [x]) (ys ++ [y]) := by
  induction h with
  | nil => exact .cons g .nil
  | cons g' _ ih => exact .cons g' ih
theorem ps_nput (hu : X.A.units + 64 < cLine) (ho : PE X o td) (hi : PE X i ty) (hv : PE X value tv) (hs : swapsWith value (some (.Subscript o i pos')) pos.line X.env = pure false) : PS X (.Assign [.Subscript o i pos'] value pos) (sNPut X.prog X.w td ty tv) := by
  refine ⟨fun pins s σ H D I h => ?_⟩
  refine wpAny_Assign_Subscript (thn (hv.run pins s σ H _ I h) fun r s1 ⟨v, H1, I1, rv, q1⟩ => thn (ho.run pins s1 σ H1 _ I1 q1) fun u s2 ⟨x, H2, I2, rx, q2⟩ => thn (hi.run pins s2 σ H2 _ I2 q2) fun iv s3 ⟨y, H3, I3, ry, q3⟩ => ?_) hs
  obtain ⟨t, l, d, k, xs, rfl, rfl, e, ka, kk, kd, ef, hl, hq⟩ := q3
  obtain rfl : u = Value.ref l := rx
  obtain rfl : iv = Value.ref t := ry
  obtain ⟨rfl, ys, rr, dd, hm, hz⟩ := ndict_at I3 e ka
  have hz' : ys.length ≤ sizeLine := by rw [← Paired.length rr]; exact hz
  refine wpAny_setItem_heap (knd := nestedKind X.prog X.w) (k := k) (hsz := hz') (by show X.A.units + 1 + 8 < cLine; omega) ⟨kk _ I3.hok, kd⟩ dd fun h' dd' hs' => ?_
  have en : atKey ys k = none := by
    unfold atKey
    rw [(find_rowN rr k).2 ef]; rfl
  rw [storedH_new en] at dd'
  have he : ∃ q, h'.get? d = some q := let ⟨q, _, _, hq, _⟩ := dd'; ⟨q, hq⟩
  exact ⟨σ, _, I3.write (e := d) (t' := s3.toks + (nestedKind X.prog X.w).draws k) (by rw [e]; exact True.intro) (.inl rfl) (fun b u hb hu => hs'.extBut b u hb hu) he (ndict_ok (by rw [List.length_append, List.length_singleton]; omega) hm (paired_app' rr ⟨rfl, rfl, rv⟩) dd'), hq⟩
theorem pe_nnew : PE X (.Dict [] [] pos) (fun σ H Q => ∀ p, H p = none → Q (.ref p) (upd H p (NDict X.prog X.w p []))) := ⟨fun pins s σ H Q I h =>
  wpAny_Dict_empty ⟨.ref s.heap.objs.size, _, I.laid (a := s.heap.objs.size) (o := NDict X.prog X.w s.heap.objs.size []) (t' := s.toks) (fun _ _ q => Heap.get?_push_of_some _ q) (Nat.le_refl _) (ndict_ok (ys := []) (Nat.zero_le _) (beq_eq_false_iff_ne.mpr (Nat.ne_of_gt I.big)) .nil (Heap.DictOfH.new s.heap)), rfl, h _ (I.hok.fresh (Nat.le_refl _))⟩⟩
end
/- ## keys -/
structure NPart {κ : Type} (C : Cd κ) (kn : κ → NestedKey) : Prop where
  at' : ∀ {P : Program} {w : World} {F H : Hp} {h : Heap} {k : κ} {v : V} {u : Value}, C.rep k v F → FEx F H → HOk P w H h → RelV v u → NestedIs h (kn k) u
  inj : ∀ a b, kn a = kn b → a = b
theorem np_I : NPart cI NestedKey.num where
  at' := fun {P w F H h k v u} r _ _ rv => by
    cases (show v = .int k from r)
    obtain ⟨t, rfl⟩ := rv
    exact NestedIs.int k t
  inj := fun a b e => NestedKey.num.inj e
theorem np_all {κ : Type} {C : Cd κ} {kn : κ → NestedKey} (n : NPart C kn) {P : Program} {w : World} {F H : Hp} {h : Heap} (x : FEx F H) (ok : HOk P w H h) : ∀ {ks : List κ} {vs : List V} {us : List Value}, Paired (fun k v => C.rep k v F) ks vs → Vals vs us → NestedAll h (ks.map kn) us
  | _, _, _, .nil, .nil => .nil
  | _, _, _, .cons r t, .cons rv tv => .cons (n.at' r x ok rv) (np_all n x ok t tv)
theorem tup_nested {P : Program} {w : World} {F H : Hp} {h : Heap} {p : Addr} {vs : List V} {ks : List NestedKey} (x : FEx F H) (ok : HOk P w H h) (e : F p = some (.tup vs)) (a : ∀ us, Vals vs us → NestedAll h ks us) : NestedIs h (.tup ks) (.ref p) := by
  have e' := x.ne e id
  obtain ⟨_, its, rv, t⟩ := ok p _ e'
  obtain ⟨o, ho, hc, n, hd⟩ := id t
  exact .tup ho hc hd (by simpa using a its rv)
theorem map_inj {α β : Type} {f : α → β} (h : ∀ a b, f a = f b → a = b) : ∀ {xs ys : List α}, xs.map f = ys.map f → xs = ys
  | [], [], _ => rfl
  | [], _ :: _, e => by cases e
  | _ :: _, [], e => by cases e
  | a :: xs, b :: ys, e => by
    injection e with e1 e2
    rw [h a b e1, map_inj h e2]
theorem np_T {κ : Type} {C : Cd κ} {kn : κ → NestedKey} (n : NPart C kn) : NPart (cT C) (fun ks => .tup (ks.map kn)) where
  at' := fun {P w F H h k v u} r x ok rv => by
    obtain ⟨p, vs, rfl, e, pr⟩ := r
    cases rv
    exact tup_nested x ok e fun us vu => np_all n x ok pr vu
  inj := fun a b e => map_inj n.inj (NestedKey.tup.inj e)
theorem np_2 {α β : Type} {A : Cd α} {B : Cd β} {ka : α → NestedKey} {kb : β → NestedKey} (na : NPart A ka) (nb : NPart B kb) : NPart (c2 A B) (fun x => .tup [ka x.1, kb x.2]) where
  at' := fun {P w F H h k v u} r x ok rv => by
    obtain ⟨p, v1, v2, rfl, e, r1, r2⟩ := r
    cases rv
    refine tup_nested x ok e fun us vu => ?_
    cases vu with
    | cons a1 t => cases t with
      | cons a2 t2 => cases t2; exact .cons (na.at' r1 x ok a1) (.cons (nb.at' r2 x ok a2) .nil)
  inj := fun a b e => by
    have e' := NestedKey.tup.inj e
    injection e' with e1 e2
    injection e2 with e2 _
    exact Prod.ext (na.inj _ _ e1) (nb.inj _ _ e2)
/- a whole number, or a tuple of such -/
abbrev UU := Int ⊕ List Int
abbrev KK := Int × UU
def cU : Cd UU where
  rep := fun x v F => match x with
    | .inl i => cI.rep i v F
    | .inr xs => (cT cI).rep xs v F
  mono := fun x v F F' s r => by
    cases x with
    | inl i => exact r
    | inr xs => exact (cT cI).mono _ _ _ _ s r
def kU : UU → NestedKey
  | .inl i => .num i
  | .inr xs => .tup (xs.map .num)
theorem np_U : NPart cU kU where
  at' := fun {P w F H h k v u} r x ok rv => by
    cases k with
    | inl i => exact np_I.at' (F := F) r x ok rv
    | inr xs => exact (np_T np_I).at' r x ok rv
  inj := fun a b e => by
    cases a <;> cases b
    · exact congrArg Sum.inl (NestedKey.num.inj e)
    · cases e
    · cases e
    · exact congrArg Sum.inr (map_inj (fun _ _ => NestedKey.num.inj) (NestedKey.tup.inj e))
abbrev cK : Cd KK := c2 cI cU
def kK (x : KK) : NestedKey := .tup [.num x.1, kU x.2]
theorem np_K : NPart cK kK := np_2 np_I np_U
theorem depthAll_num : ∀ xs : List Int, NestedKey.depthAll (xs.map .num) ≤ 1
  | [] => by simp [NestedKey.depthAll]
  | x :: xs => by
    have := depthAll_num xs
    simp only [List.map_cons, NestedKey.depthAll, NestedKey.depth]
    omega
theorem dep_K (x : KK) : (kK x).depth ≤ 8 := by
  obtain ⟨i, u⟩ := x
  cases u with
  | inl j => simp [kK, kU, NestedKey.depth, NestedKey.depthAll]
  | inr xs =>
    have := depthAll_num xs
    simp only [kK, kU, NestedKey.depth, NestedKey.depthAll]
    omega
theorem ref_K {x : KK} {v : V} {F : Hp} (r : cK.rep x v F) : ∃ t, v = .ref t := by
  obtain ⟨p, _, _, h, _⟩ := r
  exact ⟨p, h⟩
/- ## the dict by its keys and numbers -/
def rowK (F : Hp) (p : KK × Int) (q : NestedKey × Addr × V) : Prop := q.1 = kK p.1 ∧ cK.rep p.1 (.ref q.2.1) F ∧ q.2.2 = .int p.2
theorem rowK_mono {F F' : Hp} (s : Same F F') {p : KK × Int} {q : NestedKey × Addr × V} (h : rowK F p q) : rowK F' p q := ⟨h.1, cK.mono _ _ _ _ s h.2.1, h.2.2⟩
def cNd (P : Program) (w : World) : Cd (List (KK × Int)) where
  rep := fun kvs v F => ∃ l d xs, v = .ref l ∧ F l = some (NDict P w d xs) ∧ Paired (rowK F) kvs xs
  mono := fun _ _ _ _ s ⟨l, d, xs, h1, h2, h3⟩ => ⟨l, d, xs, h1, s _ _ h2, paired_mono h3 fun _ _ => rowK_mono s⟩
def mNd (P : Program) (w : World) (kvs : List (KK × Int)) : MFact where
  p := fun o F => ∃ d xs, o = NDict P w d xs ∧ Paired (rowK F) kvs xs
  mono := fun _ _ _ s ⟨d, xs, h1, h3⟩ => ⟨d, xs, h1, paired_mono h3 fun _ _ => rowK_mono s⟩
  nofrz := fun o F ⟨d, xs, h, _⟩ z => by subst h; exact z
theorem qN {P : Program} {w : World} {kvs : List (KK × Int)} : ∀ l o F, F l = none → (mNd P w kvs).p o F → ((cNd P w).at kvs).p (.ref l) (upd F l o) := fun l o F n ⟨d, xs, h1, h2⟩ => by
  subst h1
  exact ⟨l, d, xs, rfl, upd_same, paired_mono h2 fun _ _ => rowK_mono (sameNew n)⟩
theorem keysAt_of {P : Program} {w : World} {F H : Hp} {kvs : List (KK × Int)} {xs : List (NestedKey × Addr × V)} (x : FEx F H) (r : Paired (rowK F) kvs xs) : KeysAt P w H xs := fun h ok q hq => by
  obtain ⟨p, _, e1, e2, _⟩ := paired_r r q hq
  rw [e1]
  exact ⟨np_K.at' e2 x ok rfl, dep_K _⟩
def lookN (kvs : List (KK × Int)) (k : KK) : Option Int := (kvs.find? fun p => decide (p.1 = k)).map (·.2)
def pNotInN (k : KK) (kvs : List (KK × Int)) : Option Bool := some (!(lookN kvs k).isSome)
def pStN (kvs : List (KK × Int)) (k : KK) (v : Int) : Option (List (KK × Int)) := if (lookN kvs k).isSome = false ∧ kvs.length < 1000000 then some (kvs ++ [(k, v)]) else none
theorem find_rowK {F : Hp} {kvs : List (KK × Int)} {xs : List (NestedKey × Addr × V)} (r : Paired (rowK F) kvs xs) (k : KK) :
    (∀ i, lookN kvs k = some i → ∃ q, xs.find? (fun q => decide (q.1 = kK k)) = some q ∧ q.2.2 = .int i) ∧ (lookN kvs k = none → xs.find? (fun q => decide (q.1 = kK k)) = none) := by
  unfold lookN
  induction r with
  | nil => exact ⟨fun q e => (by cases e), fun _ => rfl⟩
  | @cons p p' ps ps' g _ ih =>
    by_cases c : p.1 = k
    · have c' : p'.1 = kK k := by rw [g.1, c]
      rw [List.find?_cons_of_pos (p := fun p : KK × Int => decide (p.1 = k)) (by simpa using c), List.find?_cons_of_pos (p := fun q : NestedKey × Addr × V => decide (q.1 = kK k)) (by simpa using c')]
      exact ⟨fun i e => ⟨p', rfl, by rw [g.2.2]; cases e; rfl⟩, fun e => by cases e⟩
    · have c' : ¬ p'.1 = kK k := fun z => c (np_K.inj _ _ (by rw [← g.1]; exact z))
      rw [List.find?_cons_of_neg (p := fun p : KK × Int => decide (p.1 = k)) (by simpa using c), List.find?_cons_of_neg (p := fun q : NestedKey × Addr × V => decide (q.1 = kK k)) (by simpa using c')]
      exact ih
section
variable {X : Cx} {b : Bool} {Γ : List En}
theorem ext_noD {φ : Heap → Prop} : ¬ isD (.ext φ) := id
theorem je_nnew {pos : Pos} : JE X b (.Dict [] [] pos) Γ (nw (mNd X.prog X.w)) (some []) := by
  intro F0 H0 σ F H A z ez Q q
  cases ez
  refine wE_of pe_nnew fun p hp => ?_
  exact q _ F _ (grow_new A.gr.fx hp fun z => z) ⟨p, _, rfl, hp, upd_same, A.gr.fx.emp hp, p, [], rfl, .nil⟩
theorem r2_notinN {P : Program} {w : World} : R2Ok (rNotInN P w) cK (cNd P w) (fr cB) pNotInN := by
  intro k kvs vx vy F H fx h1 h2 z ez Q q
  obtain ⟨t, rfl⟩ := ref_K h1
  obtain ⟨l, d, xs, rfl, e, r⟩ := h2
  cases ez
  refine ⟨t, l, d, kK k, xs, rfl, rfl, fx.ne e ext_noD, keysAt_of fx r, fun h ok => np_K.at' h1 fx ok rfl, dep_K _, ?_⟩
  refine q _ F H (Grow.refl fx) ?_
  show V.bl _ = V.bl _
  congr 1
  obtain ⟨f1, f2⟩ := find_rowK r k
  cases e : lookN kvs k with
  | none => rw [f2 e]; rfl
  | some i => obtain ⟨q, e', _⟩ := f1 i e; rw [e']; rfl
theorem r2_getN {P : Program} {w : World} : R2Ok (rGetN P w) (cNd P w) cK (fr cI) lookN := by
  intro kvs k vx vy F H fx h2 h1 z ez Q q
  obtain ⟨t, rfl⟩ := ref_K h1
  obtain ⟨l, d, xs, rfl, e, r⟩ := h2
  obtain ⟨x, e1, e2⟩ := (find_rowK r k).1 z ez
  refine ⟨t, l, d, kK k, xs, x, rfl, rfl, fx.ne e ext_noD, keysAt_of fx r, fun h ok => np_K.at' h1 fx ok rfl, dep_K _, e1, ?_⟩
  rw [e2]
  exact q _ F H (Grow.refl fx) rfl
theorem je_nget (hu : X.A.units + 64 < cLine) {a c : Expr} {pos : Pos} {m1 : Option (List (KK × Int))} {m2 : Option KK} (ha : JE X b a Γ (fr (cNd X.prog X.w)) m1) (hc : JE X b c Γ (fr cK) m2) (hs : NoSl c := by intro _ _; rfl) : JE X b (.Subscript a c pos) Γ (fr cI) (bind2 m1 m2 lookN) :=
  fun F0 H0 σ F H A z ez Q q => wE_of (pe_nget hu pe_w pe_w hs) (je_two A r2_getN ha hc ez q)
theorem c1_lenN {P : Program} {w : World} : C1Ok b (fun zs H Q => ∃ l d xs, zs = [V.ref l] ∧ H l = some (NDict P w d xs) ∧ KeysAt P w H xs ∧ Q (.int xs.length) H) (cNd P w) (fr cI) pLen := by
  rintro kvs vx F H fx nl ⟨l, d, xs, rfl, e, r⟩ z ez Q q
  cases ez
  refine ⟨l, d, xs, rfl, fx.ne e ext_noD, keysAt_of fx r, ?_⟩
  rw [← Paired.length r]
  exact q _ F H (Grow.refl fx) rfl
theorem jb_nput {S R : Type} {Γs : S → List En} {k : Rk R} {rest : List Stmt} {i : Nat} {x : Str} {p pos pos' : Pos} {e kx : Expr} {kvs : List (KK × Int)} {m : Option Int} {mk : Option KK} {f : List (KK × Int) → Option (Out S R)} (hu : X.A.units + 64 < cLine) (hN : X.N[i]? = some x) (hv : Vis X.env.scope x) (hg : Γ[i]? = some (.mu (mNd X.prog X.w kvs)))
    (he : JE X b e Γ (fr cI) m) (hk : JE X b kx Γ (fr cK) mk) (hr : ∀ ys, JB X b rest (Γ.set i (.mu (mNd X.prog X.w ys))) Γs k (f ys)) (hs : swapsWith e (some (.Subscript (.Name x p) kx pos')) pos.line X.env = pure false := by rfl)
    (hd : (x == ("__debug__" : Str)) = false := by decide) (hcd : (x == ("__classdict__" : Str)) = false := by decide) :
    JB X b (.Assign [.Subscript (.Name x p) kx pos'] e pos :: rest) Γ Γs k ((m.bind fun a => mk.bind fun k => pStN kvs k a).bind f) := by
  intro F0 H0 σ F H A o ho D P
  obtain ⟨ys, e0, e2⟩ := bind_some ho
  obtain ⟨a, e1, e3⟩ := bind_some e0
  obtain ⟨kk, e4, e5⟩ := bind_some e3
  unfold pStN at e5
  by_cases c : (lookN kvs kk).isSome = false ∧ kvs.length < 1000000
  case neg => rw [if_neg c] at e5; cases e5
  rw [if_pos c] at e5
  cases e5
  refine wS_of (pss_cons (ps_nput hu (pe_var hN hv hd hcd) pe_w pe_w hs) pss_w) ?_
  obtain ⟨l, ob, h1, h2, h3, h4, d, xs, rfl, h6⟩ := A.mu i _ hg
  refine he F0 H0 σ F H A a e1 _ fun v F1 H1 g1 r1 => ?_
  cases (show v = .int a from r1)
  refine ⟨_, h1, ?_⟩
  refine hk F0 H0 σ F1 H1 (A.grow g1) kk e4 _ fun w F2 H2 g2 r2 => ?_
  obtain ⟨t, rfl⟩ := ref_K r2
  have g := g1.trans g2
  have h2' : H2 l = some (NDict X.prog X.w d xs) := g.hs _ _ h2
  have h6' : Paired (rowK F2) kvs xs := paired_mono h6 fun _ _ => rowK_mono g.fs
  have en : lookN kvs kk = none := by
    cases z : lookN kvs kk with
    | none => rfl
    | some _ => rw [z] at c; exact absurd c.1 (by simp)
  refine ⟨t, l, d, kK kk, xs, rfl, rfl, h2', keysAt_of g2.fx h6', fun h ok => np_K.at' r2 g2.fx ok rfl, dep_K _, (find_rowK h6' kk).2 en, by rw [← Paired.length h6]; exact Nat.lt_trans c.2 (by decide), ?_⟩
  exact hr _ F0 H0 σ F2 _ ((A.grow g).chg (ψ' := mNd X.prog X.w (kvs ++ [(kk, a)])) hg h1 h2' (g.stays h3 h2) h4 ⟨l, _, rfl, paired_app' h6' (show rowK F2 (kk, a) (kK kk, t, .int a) from ⟨rfl, r2, rfl⟩)⟩) o e2 D P
/- a frozen value, read in another way -/
theorem je_map {e : Expr} {α β : Type} {A : Cd α} {B : Cd β} {m : Option α} (f : α → β) (h : JE X b e Γ (fr A) m) (hf : ∀ a v F, A.rep a v F → B.rep (f a) v F) : JE X b e Γ (fr B) (m.bind fun a => some (f a)) := by
  intro F0 H0 σ F H A a ea Q q
  obtain ⟨a', e1, e2⟩ := bind_some ea
  cases e2
  exact h F0 H0 σ F H A a' e1 Q fun v F' H' g r => q v F' H' g (hf _ _ _ r)
theorem paired_mapL {α β γ : Type} {G : α → γ → Prop} {G' : β → γ → Prop} {f : α → β} (h : ∀ a c, G a c → G' (f a) c) : ∀ {xs : List α} {ys : List γ}, Paired G xs ys → Paired G' (xs.map f) ys
  | _, _, .nil => .nil
  | _, _, .cons g t => .cons (h _ _ g) (paired_mapL h t)
def toK1 (x : Int × Int) : KK := (x.1, .inl x.2)
def toK2 (x : Int × List Int) : KK := (x.1, .inr x.2)
theorem map_K1 : ∀ (xs : List (Int × Int)) v F, (cL (c2 cI cI)).rep xs v F → (cL cK).rep (xs.map toK1) v F := fun xs v F ⟨p, vs, h1, h2, h3⟩ => ⟨p, vs, h1, h2, paired_mapL (fun a c ⟨p, u, w, a1, a2, a3, a4⟩ => ⟨p, u, w, a1, a2, a3, a4⟩) h3⟩
theorem map_K2 : ∀ (xs : List (Int × List Int)) v F, (cL (c2 cI (cT cI))).rep xs v F → (cL cK).rep (xs.map toK2) v F := fun xs v F ⟨p, vs, h1, h2, h3⟩ => ⟨p, vs, h1, h2, paired_mapL (fun a c ⟨p, u, w, a1, a2, a3, a4⟩ => ⟨p, u, w, a1, a2, a3, a4⟩) h3⟩
end
end Cw
/- CwExp12: a list of one's own lists; the first two of three. -/
namespace Cw
open PySem PySem.Spec L2
open PyProof.Rows hiding St
def ownRowL {α : Type} (C : Cd α) (R F : Hp) (xs : List α) (v : V) : Prop := ∃ a vs, v = .ref a ∧ R a = some (.lst vs) ∧ Paired (fun x v => C.rep x v F) xs vs
def mLL {α : Type} (C : Cd α) (rows : List (List α)) : OFact where
  p := fun _ o R F => ∃ vs, o = .lst vs ∧ Paired (ownRowL C R F) rows vs ∧ vs.Nodup ∧ ∀ a u, R a = some u → ∃ ws, u = .lst ws
  mono := fun _ o R F F' s ⟨vs, h1, h2, h3⟩ => ⟨vs, h1, paired_mono h2 fun _ _ ⟨a, ws, q2, q3, q4⟩ => ⟨a, ws, q2, q3, paired_mono q4 fun _ _ r => C.mono _ _ _ _ s r⟩, h3⟩
  nofrz := fun _ o R F ⟨vs, h1, _, _, h4⟩ => ⟨by subst h1; exact id, fun a u e => by obtain ⟨ws, rfl⟩ := h4 a u e; exact id⟩
theorem qLL {α : Type} {C : Cd α} {rows : List (List α)} : ∀ l o R F, F l = none → R l = none → (∀ a u, R a = some u → F a = none) → (mLL C rows).p l o R F → ((cL (cL C)).at rows).p (.ref l) (uni F R l o) := by
  rintro l o R F h1 h2 h3 ⟨vs, rfl, h4, _⟩
  have hs : Same F (uni F R l (.lst vs)) := uni_same h1 h3
  exact ⟨l, vs, rfl, uni_l, paired_mono h4 fun _ _ ⟨a, ws, q2, q3, q4⟩ => ⟨a, ws, q2, uni_R h2 q3, paired_mono q4 fun _ _ r => C.mono _ _ _ _ hs r⟩⟩
section
variable {X : Cx} {b : Bool} {Γ : List En}
/- an own object without anything behind it becomes one with own objects behind -/
theorem jb_openG {S R' : Type} {Γs : S → List En} {k : Rk R'} {i : Nat} {ψ : MFact} {χ : OFact} {sts : List Stmt} {m : Option (Out S R')} (hq : ∀ l o F, ψ.p o F → χ.p l o (fun _ => none) F) (hg : Γ[i]? = some (.mu ψ)) (hno : ∀ e ∈ Γ, ∀ χ, e ≠ .ow χ) (h : JB X b sts (Γ.set i (.ow χ)) Γs k m) : JB X b sts Γ Γs k m := by
  intro F0 H0 σ F H A o ho D P
  refine h F0 H0 σ F H ?_ o ho D P
  have hlen : i < Γ.length := (List.getElem?_eq_some_iff.mp hg).1
  have no : ∀ (j : Nat) (χ : OFact), Γ[j]? ≠ some (.ow χ) := fun j χ e => hno _ (List.mem_of_getElem? e) χ rfl
  have muback : ∀ (j : Nat) (ψ : MFact), (Γ.set i (.ow χ))[j]? = some (.mu ψ) → i ≠ j ∧ Γ[j]? = some (.mu ψ) := fun j ψ e => set_back e (fun z => nomatch z)
  obtain ⟨l, ob, h1, h2, h3, h4, h6⟩ := A.mu i _ hg
  refine ⟨A.gr, A.nl, by rw [List.length_set]; exact A.len, fun j φ e => A.fz j φ (set_back e (fun z => nomatch z)).2, fun j ψ e => A.mu j ψ (muback j ψ e).2, fun j k ψ1 ψ2 m e1 e2 e3 e4 => A.ne j k ψ1 ψ2 m (muback j _ e1).2 (muback k _ e2).2 e3 e4, fun j χ' e => ?_, fun j k χ1 χ2 e1 e2 => ?_⟩
  · by_cases q : i = j
    · subst q
      rw [List.getElem?_set_self hlen] at e
      cases e
      refine ⟨l, _, fun _ => none, h1, h2, h3, h4, rfl, fun _ _ z => (by cases z), hq _ _ _ h6, fun k ψ m e1 e2 => ⟨fun z => ?_, rfl⟩⟩
      subst z
      obtain ⟨n, e1'⟩ := muback k ψ e1
      exact n (A.ne i k _ ψ m hg e1' h1 e2)
    · rw [List.getElem?_set_ne q] at e
      exact absurd e (no j χ')
  · by_cases q : i = j
    · by_cases q' : i = k
      · exact q.symm.trans q'
      · rw [List.getElem?_set_ne q'] at e2; exact absurd e2 (no k χ2)
    · rw [List.getElem?_set_ne q] at e1; exact absurd e1 (no j χ1)
/- x = [] that is to hold lists of one's own -/
theorem jb_asgLL {S R' : Type} {Γs : S → List En} {k : Rk R'} {rest : List Stmt} {i : Nat} {x : Str} {lpos pos pos' : Pos} {α : Type} {C : Cd α} {m : Option (Out S R')} (hN : X.N.Nodup) (hi : X.N[i]? = some x) (hx : Loc X.env.scope x) (hno : ∀ e ∈ Γ.set i (.mu (mL (cL C) [])), ∀ χ, e ≠ .ow χ)
    (hr : JB X b rest (Γ.set i (.ow (mLL C []))) Γs k m) (hs : swapsWith (.List [] lpos) (some (.Name x pos')) pos.line X.env = pure false := by rfl)
    (hf : X.fn x = true ∨ X.env.scope.names.lookup x = some .local := by first | exact .inl rfl | exact .inr rfl | assumption) : JB X b (.Assign [.Name x pos'] (.List [] lpos) pos :: rest) Γ Γs k m := by
  have he : JE X b (.List [] lpos) Γ (nw fun _ : Unit => mL (cL C) []) (some ()) := by
    intro F0 H0 σ F H A z ez Q q
    refine wE_of (pe_lst pa_nil) ⟨by decide, fun p hp => ?_⟩
    exact q _ F _ (grow_new A.gr.fx hp fun z => z) ⟨p, _, rfl, hp, upd_same, A.gr.fx.emp hp, [], rfl, .nil⟩
  refine jb_asgN (m := some ()) (f := fun _ => m) hN hi hx he (fun _ => ?_) hs hf
  by_cases hlen : i < Γ.length
  · refine jb_openG (i := i) (ψ := mL (cL C) []) (χ := mLL C []) ?_ (by rw [List.getElem?_set_self hlen]) hno ?_
    · rintro _ o F ⟨vs, rfl, h⟩
      cases h
      exact ⟨[], rfl, .nil, List.nodup_nil, fun _ _ z => by cases z⟩
    · rw [List.set_set]; exact hr
  · rw [List.set_eq_of_length_le (by omega)] at hr ⊢
    exact hr
theorem Sat.newO {F0 H0 F H : Hp} {σ : St} {i : Nat} {χ : OFact} {l q : Addr} {ob : HO} {R : Hp} (A : Sat b F0 H0 Γ σ F H) (w : OwAt H0 Γ σ F H i χ l ob R) (r1 : H q = none) : q ≠ l ∧ R q = none ∧ H0 q = none ∧ ∀ (j : Nat) (ψ : MFact) (m : Addr), Γ[j]? = some (.mu ψ) → σ[j]? = some (some (.ref m)) → m ≠ q := by
  refine ⟨fun z => (by have := w.2.1; rw [← z, r1] at this; cases this), ?_, A.gr.hs.free r1, fun j ψ m e1 e2 z => ?_⟩
  · cases z : R q with
    | none => rfl
    | some u => have := (w.2.2.2.2.2.1 q u z).1; rw [r1] at this; cases this
  · obtain ⟨m', om, y1, y2, _⟩ := A.mu j ψ e1
    rw [e2] at y1
    cases y1
    rw [z, r1] at y2; cases y2
/- x.append(a new list) -/
theorem jb_appLL {S R' : Type} {Γs : S → List En} {k : Rk R'} {rest : List Stmt} {i : Nat} {x : Str} {p apos cpos pos : Pos} {e : Expr} {α : Type} {C : Cd α} {rows : List (List α)} {m : Option (List α)} {f : List (List α) → Option (Out S R')} (hN : X.N[i]? = some x) (hv : Vis X.env.scope x) (hg : Γ[i]? = some (.ow (mLL C rows))) (he : JE X b e Γ (nw (mL C)) m)
    (hr : ∀ ys, JB X b rest (Γ.set i (.ow (mLL C ys))) Γs k (f ys)) (hbase : attributeBase (.Name x p) "append" X.env (eval (.Name x p) X.env) = eval (.Name x p) X.env := by rfl)
    (hfew : ((backTo cpos (starEach (e :: []) X.env)).all (fun x => !x.1) && (backToKw cpos (keywordEach [] X.env)).all (fun x => x.1.isSome) && decide ((e :: []).length + ([] : List Keyword).length + (if ([] : List Keyword).isEmpty then 0 else 1) < 30)) = true := by rfl)
    (hline : (apos.endLine == cpos.line) = true := by rfl) (hs : starEach [e] X.env = (false, eval e X.env) :: starEach [] X.env := by rfl) (hsw : swapsWith (.Call (.Attribute (.Name x p) "append" apos) [e] [] cpos) none pos.line X.env = pure false := by rfl)
    (hd : (x == ("__debug__" : Str)) = false := by decide) (hcd : (x == ("__classdict__" : Str)) = false := by decide) :
    JB X b (.Expr (.Call (.Attribute (.Name x p) "append" apos) [e] [] cpos) pos :: rest) Γ Γs k ((m.bind fun a => pApp rows a).bind f) := by
  intro F0 H0 σ F H A o ho D P
  obtain ⟨ys, e0, e2⟩ := bind_some ho
  obtain ⟨a, e1, e3⟩ := bind_some e0
  unfold pApp at e3
  by_cases c : rows.length < 1000000
  case neg => rw [if_neg c] at e3; cases e3
  rw [if_pos c] at e3
  cases e3
  refine wS_of (pss_cons (ps_expr (pe_bm PySem.F.plainAttrs_list PySem.F.slot_list_append PySem.F.type_list_append mt_append (pe_var hN hv hd hcd) (pa_cons pe_w pa_nil hs) hbase hfew hline hs rfl) hsw) pss_w) ?_
  obtain ⟨l, ob, R, w⟩ := A.ow i _ hg
  obtain ⟨_, x2, _, _, _, _, ⟨us, eus, _⟩, _⟩ := id w
  subst eus
  refine ⟨_, w.1, .inl ⟨rfl, us, SqL.of x2⟩, ?_⟩
  refine he F0 H0 σ F H A a e1 _ fun v F1 H1 g r1 => ?_
  obtain ⟨q, oq, rfl, r1, r2, r3, vq, rfl, r4⟩ := r1
  have wg := w.grow (F0 := F0) g
  obtain ⟨ql, qR, qH, qm⟩ := A.newO w r1
  obtain ⟨w1, w2', w3, w4, w5, w6, ⟨vs, ek, w7, w7a, w7c⟩, w8⟩ := id wg
  cases ek
  have fresh : V.ref q ∉ us := fun z => by
    obtain ⟨j, hj, ej⟩ := List.getElem_of_mem z
    obtain ⟨pa, p1, p2⟩ := paired_ix w7 (List.getElem?_eq_getElem hj)
    obtain ⟨a', vs', h2, h3, _⟩ := p2
    rw [ej] at h2
    cases h2
    rw [qR] at h3; cases h3
  refine ⟨l, us, .ref q, rfl, rfl, w2', by rw [← paired_len w7]; exact Nat.lt_trans c (by decide), ?_⟩
  refine hr _ F0 H0 σ F1 _ ((A.grow g).chgO (χ' := mLL C (rows ++ [a])) (o' := .lst (us ++ [.ref q])) (R' := upd R q (.lst vq)) hg wg (fun a' h1 _ => by rw [upd_ne h1]) upd_same (by rw [upd_ne (Ne.symm ql)]; exact w5) (fun a' u e => ?_) ⟨_, rfl, paired_app (paired_mono w7 fun _ _ ⟨b1, v1, t2, t3, t4⟩ => ⟨b1, v1, t2, by rw [upd_ne (fun z => by rw [z, qR] at t3; cases t3)]; exact t3, t4⟩) (.cons ⟨q, vq, rfl, upd_same, r4⟩ .nil), ?_, fun a' u e => ?_⟩) o e2 D P
  · by_cases z : a' = q
    · subst z
      rw [upd_same] at e
      cases e
      exact ⟨by rw [upd_ne ql]; exact r2, r3, qH, qm⟩
    · rw [upd_ne z] at e
      obtain ⟨y1, y2, y3⟩ := w6 a' u e
      have nl : a' ≠ l := fun z => by rw [z, w5] at e; cases e
      exact ⟨by rw [upd_ne nl]; exact y1, y2, y3, fun j ψ m e1 e2 z => by have := (w8 j ψ m e1 e2).2; rw [z, e] at this; cases this⟩
  · rw [List.nodup_append]
    refine ⟨w7a, by simp, fun u hu v hv => ?_⟩
    rw [List.mem_singleton.mp hv]
    exact fun (z : u = V.ref q) => fresh (z ▸ hu)
  · by_cases z : a' = q
    · subst z; rw [upd_same] at e; exact ⟨_, (Option.some.inj e).symm⟩
    · rw [upd_ne z] at e; exact w7c a' u e
/- x[k][i] = v -/
def pSetLL {α : Type} (rows : List (List α)) (k i : Int) (a : α) : Option (List (List α)) := (ixN rows.length k).bind fun j => (rows[j]?).bind fun xs => (setI xs i a).map fun ys => rows.set j ys
theorem own_rowL {α : Type} {C : Cd α} {R F : Hp} {a : Addr} {us : List V} : ∀ {rows : List (List α)} {vs : List V}, Paired (ownRowL C R F) rows vs → vs.Nodup → ∀ {j : Nat} {xs ys : List α}, rows[j]? = some xs → vs[j]? = some (.ref a) → Paired (fun x v => C.rep x v F) ys us → Paired (ownRowL C (upd R a (.lst us)) F) (rows.set j ys) vs
  | _, _, .nil, _, j, xs, ys, h1, _, _ => by simp at h1
  | _, _, .cons (b := v) h t, nd, 0, xs, ys, h1, h2, r => by
    obtain ⟨n1, n2⟩ := List.nodup_cons.mp nd
    simp at h2
    subst h2
    refine .cons ⟨a, us, rfl, upd_same, r⟩ ?_
    have : ∀ {rows : List (List α)} {vs : List V}, V.ref a ∉ vs → Paired (ownRowL C R F) rows vs → Paired (ownRowL C (upd R a (.lst us)) F) rows vs := by
      intro rows vs hn t
      induction t with
      | nil => exact .nil
      | @cons _ q _ qs hh _ ih =>
        obtain ⟨a', vs2, g2, g3, g4⟩ := hh
        have ne : a' ≠ a := fun z => hn (List.mem_cons.mpr (.inl (by rw [g2, z])))
        exact .cons ⟨a', vs2, g2, by rw [upd_ne ne]; exact g3, g4⟩ (ih fun z => hn (List.mem_cons_of_mem _ z))
    exact this n1 t
  | _, _, .cons (b := v) h t, nd, j + 1, xs, ys, h1, h2, r => by
    obtain ⟨n1, n2⟩ := List.nodup_cons.mp nd
    obtain ⟨a', vs2, g2, g3, g4⟩ := h
    have h2' : _ := (by simpa using h2 : _ = some (V.ref a))
    have ne : a' ≠ a := fun z => n1 (by rw [g2, z]; exact List.mem_of_getElem? h2')
    exact .cons ⟨a', vs2, g2, by rw [upd_ne ne]; exact g3, g4⟩ (own_rowL t n2 (by simpa using h1) h2' r)
theorem jb_setLL {S R' : Type} {Γs : S → List En} {k : Rk R'} {rest : List Stmt} {i : Nat} {x : Str} {p spos pos pos' : Pos} {e kx ix : Expr} {α : Type} {C : Cd α} {rows : List (List α)} {m : Option α} {mk mi : Option Int} {f : List (List α) → Option (Out S R')} (hN : X.N[i]? = some x) (hv : Vis X.env.scope x) (hg : Γ[i]? = some (.ow (mLL C rows)))
    (he : JE X b e Γ (fr C) m) (hk : JE X b kx Γ (fr cI) mk) (hi : JE X b ix Γ (fr cI) mi) (hr : ∀ ys, JB X b rest (Γ.set i (.ow (mLL C ys))) Γs k (f ys)) (hns : PlainIx kx := by exact fun _ _ => rfl) (hs : swapsWithSole [.Subscript (.Subscript (.Name x p) kx spos) ix pos'] e pos.line X.env = pure false := by rfl) (hw : swappedStores [.Subscript (.Subscript (.Name x p) kx spos) ix pos'] e X.env = pure none := by rfl)
    (h1' : (assignEach [.Subscript (.Subscript (.Name x p) kx spos) ix pos'] X.env).map (·.2) = [assign (.Subscript (.Subscript (.Name x p) kx spos) ix pos') X.env] := by rfl)
    (ha : ∀ v, assign (.Subscript (.Subscript (.Name x p) kx spos) ix pos') X.env v = (do
      let ov ← holding [v] (eval (.Subscript (.Name x p) kx spos) X.env)
      let iv ← holding [v, ov] (eval ix X.env)
      standAt pos'
      holding [v, ov, iv] (setItem ov iv v)
      release [v, ov, iv] []) := by intro _; rfl)
    (hd : (x == ("__debug__" : Str)) = false := by decide) (hcd : (x == ("__classdict__" : Str)) = false := by decide) :
    JB X b (.Assign [.Subscript (.Subscript (.Name x p) kx spos) ix pos'] e pos :: rest) Γ Γs k ((m.bind fun a => mk.bind fun k => mi.bind fun i => pSetLL rows k i a).bind f) := by
  intro F0 H0 σ F H A o ho D P
  obtain ⟨ys, e0, e2⟩ := bind_some ho
  obtain ⟨a, e1, e3⟩ := bind_some e0
  obtain ⟨kk, e4, e5⟩ := bind_some e3
  obtain ⟨ii, e6, e7⟩ := bind_some e5
  obtain ⟨jj, ej, e7⟩ := bind_some e7
  obtain ⟨xs, e8, e9⟩ := bind_some e7
  cases e10 : setI xs ii a with
  | none => rw [e10] at e9; cases e9
  | some zs =>
  rw [e10] at e9
  cases e9
  obtain ⟨j, e11, e12⟩ := bind_some e10
  cases e12
  refine wS_of (pss_cons (ps_asg pe_w (pg_sub (pe_ix ix_list (pe_var hN hv hd hcd) pe_w hns) pe_w set_list ha) hs hw h1') pss_w) ?_
  obtain ⟨l, ob, R, w⟩ := A.ow i _ hg
  refine he F0 H0 σ F H A a e1 _ fun v F1 H1 g1 r1 => ?_
  refine ⟨_, w.1, ?_⟩
  refine hk F0 H0 σ F1 H1 (A.grow g1) kk e4 _ fun w2 F2 H2 g2 r2 => ?_
  cases (show w2 = .int kk from r2)
  have g12 := g1.trans g2
  obtain ⟨_, x2, _, _, _, x6, ⟨us, rfl, x7, x7a, x7c⟩, _⟩ := id (w.grow (F0 := F0) g12)
  have hlen : rows.length = us.length := paired_len x7
  have hjl : jj < us.length := by rw [← hlen]; exact (List.getElem?_eq_some_iff.mp e8).1
  obtain ⟨xs', y1, y2⟩ := paired_ix x7 (List.getElem?_eq_getElem hjl)
  rw [e8] at y1
  cases y1
  obtain ⟨q, vs, q1, q3, q4⟩ := y2
  have q1' : us[jj]? = some (.ref q) := by rw [List.getElem?_eq_getElem hjl, q1]
  refine ⟨l, us, kk, .ref q, rfl, rfl, SqL.of x2, ?_, ?_⟩
  · show (ixN us.length kk).bind (fun j => us[j]?) = _
    rw [← hlen, ej]; exact q1'
  refine hi F0 H0 σ F2 H2 (A.grow g12) ii e6 _ fun w3 F3 H3 g3 r3 => ?_
  cases (show w3 = .int ii from r3)
  have g := g12.trans g3
  have wg := w.grow (F0 := F0) g
  obtain ⟨w1, w2', w3, w4, w5, w6, ⟨us2, ek, w7, w7a, w7c⟩, w8⟩ := id wg
  cases ek
  have q4' : Paired (fun x v => C.rep x v F3) xs vs := paired_mono q4 fun _ _ r => C.mono _ _ _ _ g3.fs r
  have hq2 := (w6 q _ q3).1
  have ql : q ≠ l := fun z => by rw [z, w5] at q3; cases q3
  refine ⟨q, vs, ii, j, rfl, rfl, hq2, by rw [← paired_len q4']; exact e11, ?_⟩
  refine hr _ F0 H0 σ F3 _ ((A.grow g).chgO (χ' := mLL C (rows.set jj (xs.set j a))) (o' := .lst us) (R' := upd R q (.lst (vs.set j v))) hg wg (fun a' h1 h2 => ?_) (by rw [upd_ne (Ne.symm ql)]; exact w2') (by rw [upd_ne (Ne.symm ql)]; exact w5) (fun a' u e => ?_) ⟨_, rfl, own_rowL w7 w7a e8 q1' (paired_set (G := fun a v => C.rep a v F3) (C.mono _ _ _ _ (g2.fs.trans g3.fs) r1) j q4'), w7a, fun a' u e => ?_⟩) o e2 D P
  · by_cases z : a' = q
    · subst z; rw [upd_same] at h2; cases h2
    · rw [upd_ne z]
  · by_cases z : a' = q
    · subst z
      rw [upd_same] at e
      cases e
      exact ⟨upd_same, (w6 a' _ q3).2.1, (w6 a' _ q3).2.2, fun j ψ m e1 e2 z => by have := (w8 j ψ m e1 e2).2; rw [z, q3] at this; cases this⟩
    · rw [upd_ne z] at e
      exact ⟨by rw [upd_ne z]; exact (w6 a' u e).1, (w6 a' u e).2.1, (w6 a' u e).2.2, fun j ψ m e1 e2 z => by have := (w8 j ψ m e1 e2).2; rw [z, e] at this; cases this⟩
  · by_cases z : a' = q
    · subst z; rw [upd_same] at e; exact ⟨_, (Option.some.inj e).symm⟩
    · rw [upd_ne z] at e; exact w7c a' u e
/- x[:2] of three -/
theorem je_sl3 {e : Expr} {j : Nat} {cp p2 pos : Pos} {α β γ : Type} {A : Cd α} {B : Cd β} {C : Cd γ} {m : Option (α × β × γ)} (h : JE X b e Γ (fr (c3 A B C)) m) : JE X b (.Subscript e (.Slice none (some (.Constant (.int 2) j cp)) none p2) pos) Γ (fr (c2 A B)) (m.bind fun x => some (x.1, x.2.1)) := by
  intro F0 H0 σ F H S z ez Q q
  obtain ⟨x, e1, e2⟩ := bind_some ez
  cases e2
  refine wE_of (pe_slice sl_tupA pe_w po_none (po_some pe_int)) ?_
  refine h F0 H0 σ F H S x e1 _ fun v F1 H1 g1 r1 => ?_
  obtain ⟨p, u, w, z, rfl, h1, h2, h3, _⟩ := r1
  refine ⟨2, rfl, ?_⟩
  refine ⟨p, [u, w, z], rfl, SqT.of (tup_of g1.fx h1), fun hw => ?_, fun _ l' hl' => ?_⟩
  · exact absurd (show (2 : Nat) = 3 from hw.2) (by decide)
  · exact q _ (upd F1 l' (.tup [u, w])) _ (g1.trans (Grow.put g1.fx hl' fun z => z)) ⟨l', u, w, rfl, upd_same, A.mono _ _ _ _ (sameNew (g1.fx.emp hl')) h2, B.mono _ _ _ _ (sameNew (g1.fx.emp hl')) h3⟩
end
end Cw
/- CwExp13: list(range(a, b)). -/
namespace Cw
open PySem PySem.Spec L2
open PyProof.Rows hiding St
section
variable {X : Cx} {b : Bool} {Γ : List En}
def pLstRng2 (i j : Int) : Option (List Int) := if 0 ≤ i ∧ i ≤ 1000000 ∧ 0 ≤ j ∧ j ≤ 1000000 then some (upF i (j - i).toNat) else none
theorem je_lstRng2 {e e' : Expr} {p pos p2 pos2 : Pos} {m n : Option Int} (hc : X.calm = true) (hg : Gl X "list") (hm : X.mg "list" = none) (hg2 : Gl X "range") (hm2 : X.mg "range" = none) (h : JE X b e Γ (fr cI) m) (h' : JE X b e' Γ (fr cI) n) (na : starEach [e, e'] X.env = (false, eval e X.env) :: starEach [e'] X.env := by rfl) (nb : starEach [e'] X.env = (false, eval e' X.env) :: starEach [] X.env := by rfl)
    (hp : (backTo pos2 (starEach [e'] X.env)).any (·.1) = false := by rfl) (na2 : starEach [.Call (.Name "range" p2) [e, e'] [] pos2] X.env = (false, eval (.Call (.Name "range" p2) [e, e'] [] pos2) X.env) :: starEach [] X.env := by rfl) :
    JE X b (.Call (.Name "list" p) [.Call (.Name "range" p2) [e, e'] [] pos2] [] pos) Γ (nw (mL cI)) (bind2 m n pLstRng2) := by
  intro F0 H0 σ F H A xs e1 Q q
  obtain ⟨i, j, e2, e3, e4⟩ := bind2_some e1
  unfold pLstRng2 at e4
  by_cases c : 0 ≤ i ∧ i ≤ 1000000 ∧ 0 ≤ j ∧ j ≤ 1000000
  · rw [if_pos c] at e4
    cases e4
    refine wE_of (pe_listRg hc hg hm (prg_2 hg2 hm2 pe_w pe_w na nb hp) na2) ?_
    refine h F0 H0 σ F H A i e2 _ fun v F1 H1 g1 r1 => ?_
    refine h' F0 H0 σ F1 H1 (A.grow g1) j e3 _ fun w F2 H2 g2 r2 => ?_
    cases (show v = .int i from r1)
    cases (show w = .int j from r2)
    have g := g1.trans g2
    refine ⟨i, j, rfl, rfl, RgOk.of_le c.1 (by omega) (by omega) c.2.2.1, fun l hl => ?_⟩
    have e9 : rgV i j = (upF i (j - i).toNat).map V.int := by
      unfold rgV upF
      rw [List.map_map]
      rfl
    rw [e9]
    exact q _ F2 _ (g.trans (grow_new g.fx hl fun z => z)) ⟨l, _, rfl, g.hs.free hl, upd_same, g.fx.emp hl, _, rfl, int_paired _⟩
  · rw [if_neg c] at e4; cases e4
/- len of a set -/
theorem srtS_nodup (xs : List Int) : (srtS xs).Nodup := (srtS_sorted xs).imp fun h e => by omega
theorem len_nodup {xs ys : List Int} (h1 : xs.Nodup) (h2 : ys.Nodup) (h : ∀ y, y ∈ xs ↔ y ∈ ys) : xs.length = ys.length :=
  ((List.perm_ext_iff_of_nodup h1 h2).mpr h).length_eq
def rLenSet (w : World) : List V → Hp → VK → Prop := fun zs H Q => ∃ (a : Addr) (ks : List Int) (n : Nat), zs = [V.ref a] ∧ H a = some (SetO w a (fun j => decide (j ∈ ks)) n) ∧ Q (.int (srtS ks).length) H
theorem cr_lenSet : CallR X (.builtin "len") (rLenSet X.w) := by
  intro pins s σ H zs us Q I r h
  obtain ⟨a, ks, n, rfl, e, q⟩ := h
  obtain ⟨u, rfl, ru⟩ := vals1 r
  cases ru
  obtain ⟨⟨o, es, ep, t, ho, hex, hd, _, hnd, hS, hsz, hf, hn, _⟩, _, _⟩ := I.hok a _ e
  have hl : es.size = (srtS ks).length := by
    have := len_nodup hnd (srtS_nodup ks) fun y => by rw [← hS y, decide_eq_true_eq, srtS_mem]
    rw [List.length_map, Array.length_toList] at this
    exact this
  have hb : scanBound < 2 ^ 62 := by unfold scanBound; decide
  refine call_len_set ho hex hd hf (by omega) ?_
  exact ⟨.int (srtS ks).length, H, I.tok _, ⟨_, by rw [hl]⟩, q⟩
def pLenSet (xs : List Int) : Option Int := some ((srtS xs).length : Int)
theorem c1_lenSet {w : World} : C1Ok b (rLenSet w) (cSet w) (fr cI) pLenSet := by
  rintro xs v F H fx _ ⟨p, c, rfl, h1, h2⟩ z ez Q q
  cases ez
  exact ⟨p, xs, c, rfl, fx.ne h1 fun z => z, q _ F H (Grow.refl fx) rfl⟩
end
end Cw
/- CwExp14: a second name for one's own list within one's own dict; dicts that are not unequal. -/
namespace Cw
open PySem PySem.Spec L2
open PyProof.Rows hiding St
/- one's own dict of lists, the list of k at a -/
def mDLa {α : Type} (C : Cd α) (kvs : List (Int × List α)) (k : Int) (a : Addr) : OFact where
  p := fun l o R F => (mDL C kvs).p l o R F ∧ ∃ ks, o = .dK ks ∧ valV ks (Sum.inl k) = some (.ref a)
  mono := fun l o R F F' s h => ⟨(mDL C kvs).mono l o R F F' s h.1, h.2⟩
  nofrz := fun l o R F h => (mDL C kvs).nofrz l o R F h.1
def isRef (a : Addr) : Fact := ⟨fun v _ => v = .ref a, fun _ _ _ _ h => h⟩
section
variable {X : Cx} {b : Bool} {Γ : List En}
theorem Sat.reO {F0 H0 F H : Hp} {σ : St} {i : Nat} {χ χ' : OFact} (S : Sat b F0 H0 Γ σ F H) (hg : Γ[i]? = some (.ow χ)) (h : ∀ l o R, OwAt H0 Γ σ F H i χ l o R → χ'.p l o R F) : Sat b F0 H0 (Γ.set i (.ow χ')) σ F H := by
  obtain ⟨l, o, R, w⟩ := S.ow i χ hg
  exact S.chgO (χ' := χ') (o' := o) (R' := R) hg w (fun _ _ _ => rfl) w.2.1 w.2.2.2.2.1 (fun a u e => ⟨(w.2.2.2.2.2.1 a u e).1, (w.2.2.2.2.2.1 a u e).2.1, (w.2.2.2.2.2.1 a u e).2.2, fun j ψ m e1 e2 z => by have := (w.2.2.2.2.2.2.2 j ψ m e1 e2).2; rw [z, e] at this; cases this⟩) (h l o R w)
/- y = x[k] -/
theorem jb_alias {S R' : Type} {Γs : S → List En} {k : Rk R'} {rest : List Stmt} {i j : Nat} {x y : Str} {p spos pos pos' : Pos} {kx : Expr} {α : Type} {C : Cd α} {kvs : List (Int × List α)} {mk : Option Int} {f : Int → List α → Option (Out S R')} (hu : X.A.units + 1 < cLine) (hN : X.N[i]? = some x) (hv : Vis X.env.scope x) (hg : Γ[i]? = some (.ow (mDL C kvs)))
    (hnd : X.N.Nodup) (hj : X.N[j]? = some y) (hy : Loc X.env.scope y) (hk : JE X b kx Γ (fr cI) mk) (hr : ∀ kk xs a, lookD kvs kk = some xs → JB X b rest ((Γ.set i (.ow (mDLa C kvs kk a))).set j (.fz (isRef a))) Γs k (f kk xs)) (hns : NoSl kx := by intro _ _; rfl)
    (hs : swapsWith (.Subscript (.Name x p) kx spos) (some (.Name y pos')) pos.line X.env = pure false := by rfl) (hf : X.fn y = true ∨ X.env.scope.names.lookup y = some .local := by first | exact .inl rfl | exact .inr rfl | assumption)
    (hd : (x == ("__debug__" : Str)) = false := by decide) (hcd : (x == ("__classdict__" : Str)) = false := by decide) :
    JB X b (.Assign [.Name y pos'] (.Subscript (.Name x p) kx spos) pos :: rest) Γ Γs k (mk.bind fun kk => (lookD kvs kk).bind fun xs => f kk xs) := by
  intro F0 H0 σ F H A o ho D P
  obtain ⟨kk, e1, e0⟩ := bind_some ho
  obtain ⟨xs, e2, e3⟩ := bind_some e0
  refine wS_of (pss_cons (ps_set hnd hj hy (pe_dget hu (pe_var hN hv hd hcd) pe_w hns) hs hf) pss_w) ?_
  obtain ⟨l, ob, R, w⟩ := A.ow i _ hg
  refine ⟨_, w.1, ?_⟩
  refine hk F0 H0 σ F H A kk e1 _ fun w2 F1 H1 g1 r1 => ?_
  cases (show w2 = .int kk from r1)
  have wg := w.grow (F0 := F0) g1
  obtain ⟨_, x2, _, _, _, x6, ⟨ks, rfl, x7, ⟨x7a, x7b⟩, x7c⟩, _⟩ := id wg
  obtain ⟨q, vs, q1, _, q3, _, _⟩ := own_row x7 x7a x7b e2
  refine ⟨l, .ref q, rfl, ?_, ?_⟩
  · rw [← q1]; exact DGet.k (k := Sum.inl kk) x2
  · have A1 := A.grow g1
    refine hr kk xs q e2 F0 H0 _ F1 H1 (Sat.put (φ := isRef q) (A1.chgO (χ' := mDLa C kvs kk q) (o' := .dK ks) (R' := R) hg wg (fun _ _ _ => rfl) x2 wg.2.2.2.2.1 (fun a u e => ⟨(x6 a u e).1, (x6 a u e).2.1, (x6 a u e).2.2, fun j ψ m e1 e2 z => by have := (wg.2.2.2.2.2.2.2 j ψ m e1 e2).2; rw [z, e] at this; cases this⟩) ⟨⟨ks, rfl, x7, ⟨x7a, x7b⟩, x7c⟩, ks, rfl, q1⟩) rfl) o e3 D P
/- y[n], y a second name -/
theorem je_ixA {i j : Nat} {y : Str} {p pos : Pos} {ix : Expr} {α : Type} {C : Cd α} {kvs : List (Int × List α)} {kk : Int} {a : Addr} {xs : List α} {mi : Option Int} (hx : lookD kvs kk = some xs) (hj : X.N[j]? = some y) (hv : Vis X.env.scope y) (hg : Γ[i]? = some (.ow (mDLa C kvs kk a))) (hgj : Γ[j]? = some (.fz (isRef a))) (hi : JE X b ix Γ (fr cI) mi) (hs : PlainIx ix)
    (hd : (y == ("__debug__" : Str)) = false := by decide) (hcd : (y == ("__classdict__" : Str)) = false := by decide) : JE X b (.Subscript (.Name y p) ix pos) Γ (fr C) (bind2 (some xs) mi atI) := by
  intro F0 H0 σ F H A z ez Q q
  obtain ⟨xs', ii, e1, e2, e3⟩ := bind2_some ez
  cases e1
  refine wE_of (pe_ix ix_list (pe_var hj hv hd hcd) pe_w hs) ?_
  obtain ⟨v, y1, y2⟩ := A.fz j _ hgj
  cases (show v = .ref a from y2)
  refine ⟨_, y1, ?_⟩
  refine hi F0 H0 σ F H A ii e2 _ fun w2 F1 H1 g1 r1 => ?_
  cases (show w2 = .int ii from r1)
  obtain ⟨l, ob, R, w⟩ := A.ow i _ hg
  obtain ⟨_, x2, _, _, _, x6, ⟨⟨ks, rfl, x7, ⟨x7a, x7b⟩, x7c⟩, ks', ek, xa⟩, _⟩ := id (w.grow (F0 := F0) g1)
  cases ek
  obtain ⟨q', vs, q1, _, q3, q4, _⟩ := own_row x7 x7a x7b hx
  rw [xa] at q1
  cases q1
  obtain ⟨u, h3, h4⟩ := paired_atI q4 e3
  exact ⟨a, vs, ii, u, rfl, rfl, SqL.of (x6 a _ q3).1, h3, q u F1 H1 g1 h4⟩
/- y[n] = v, y a second name -/
theorem jb_setA {S R' : Type} {Γs : S → List En} {k : Rk R'} {rest : List Stmt} {i j : Nat} {y : Str} {p pos pos' : Pos} {e ix : Expr} {α : Type} {C : Cd α} {kvs : List (Int × List α)} {kk : Int} {a : Addr} {xs : List α} {m : Option α} {mi : Option Int} {f : List (Int × List α) → Option (Out S R')} (hx : lookD kvs kk = some xs) (hj : X.N[j]? = some y) (hv : Vis X.env.scope y) (hg : Γ[i]? = some (.ow (mDLa C kvs kk a))) (hgj : Γ[j]? = some (.fz (isRef a)))
    (he : JE X b e Γ (fr C) m) (hi : JE X b ix Γ (fr cI) mi) (hr : ∀ ys, JB X b rest (Γ.set i (.ow (mDL C ys))) Γs k (f ys)) (hs : swapsWithSole [.Subscript (.Name y p) ix pos'] e pos.line X.env = pure false := by rfl) (hw : swappedStores [.Subscript (.Name y p) ix pos'] e X.env = pure none := by rfl)
    (h1' : (assignEach [.Subscript (.Name y p) ix pos'] X.env).map (·.2) = [assign (.Subscript (.Name y p) ix pos') X.env] := by rfl)
    (ha : ∀ v, assign (.Subscript (.Name y p) ix pos') X.env v = (do
      let ov ← holding [v] (eval (.Name y p) X.env)
      let iv ← holding [v, ov] (eval ix X.env)
      standAt pos'
      holding [v, ov, iv] (setItem ov iv v)
      release [v, ov, iv] []) := by intro _; rfl)
    (hd : (y == ("__debug__" : Str)) = false := by decide) (hcd : (y == ("__classdict__" : Str)) = false := by decide) :
    JB X b (.Assign [.Subscript (.Name y p) ix pos'] e pos :: rest) Γ Γs k ((m.bind fun a => mi.bind fun i => (setI xs i a).map fun ys => setV kvs kk ys).bind f) := by
  intro F0 H0 σ F H A o ho D P
  obtain ⟨ys, e0, e2⟩ := bind_some ho
  obtain ⟨av, e1, e3⟩ := bind_some e0
  obtain ⟨ii, e6, e9⟩ := bind_some e3
  cases e10 : setI xs ii av with
  | none => rw [e10] at e9; cases e9
  | some zs =>
  rw [e10] at e9
  cases e9
  obtain ⟨jj, e11, e12⟩ := bind_some e10
  cases e12
  refine wS_of (pss_cons (ps_asg pe_w (pg_sub (pe_var hj hv hd hcd) pe_w set_list ha) hs hw h1') pss_w) ?_
  obtain ⟨l, ob, R, w⟩ := A.ow i _ hg
  refine he F0 H0 σ F H A av e1 _ fun v F1 H1 g1 r1 => ?_
  obtain ⟨v0, y1, y2⟩ := A.fz j _ hgj
  cases (show v0 = .ref a from y2)
  refine ⟨_, y1, ?_⟩
  refine hi F0 H0 σ F1 H1 (A.grow g1) ii e6 _ fun w3 F3 H3 g3 r3 => ?_
  cases (show w3 = .int ii from r3)
  have g := g1.trans g3
  have wg := w.grow (F0 := F0) g
  obtain ⟨w1, w2', w3, w4, w5, w6, ⟨⟨ks2, ek, w7, ⟨w7a, w7b⟩, w7c⟩, ks3, ek3, xa⟩, w8⟩ := id wg
  cases ek
  cases ek3
  obtain ⟨q, vs, q1, _, q3, q4, q5⟩ := own_row w7 w7a w7b hx
  rw [xa] at q1
  cases q1
  have hq2 := (w6 a _ q3).1
  have ql : a ≠ l := fun z => by rw [z, w5] at q3; cases q3
  refine ⟨a, vs, ii, jj, rfl, rfl, hq2, by rw [← paired_len q4]; exact e11, ?_⟩
  refine hr _ F0 H0 σ F3 _ ((A.grow g).chgO (χ' := mDL C (setV kvs kk (xs.set jj av))) (o' := .dK ks2) (R' := upd R a (.lst (vs.set jj v))) hg wg (fun a' h1 h2 => ?_) (by rw [upd_ne (Ne.symm ql)]; exact w2') (by rw [upd_ne (Ne.symm ql)]; exact w5) (fun a' u e => ?_) ⟨_, rfl, q5 _ _ (paired_set (G := fun a v => C.rep a v F3) (C.mono _ _ _ _ g3.fs r1) jj q4), ⟨w7a, by rw [setV_keys]; exact w7b⟩, fun a' u e => ?_⟩) o e2 D P
  · by_cases z : a' = a
    · subst z; rw [upd_same] at h2; cases h2
    · rw [upd_ne z]
  · by_cases z : a' = a
    · subst z
      rw [upd_same] at e
      cases e
      exact ⟨upd_same, (w6 a' _ q3).2.1, (w6 a' _ q3).2.2, fun j ψ m e1 e2 z => by have := (w8 j ψ m e1 e2).2; rw [z, q3] at this; cases this⟩
    · rw [upd_ne z] at e
      exact ⟨by rw [upd_ne z]; exact (w6 a' u e).1, (w6 a' u e).2.1, (w6 a' u e).2.2, fun j ψ m e1 e2 z => by have := (w8 j ψ m e1 e2).2; rw [z, e] at this; cases this⟩
  · by_cases z : a' = a
    · subst z; rw [upd_same] at e; exact ⟨_, (Option.some.inj e).symm⟩
    · rw [upd_ne z] at e; exact w7c a' u e
/- ## dicts that are not unequal -/
theorem neP_dicts {prog : Program} {w : World} {K : Type} [DecidableEq K] {knd : KeyKind prog w K} {A : Around} {s : Shared} {a b : Addr} {ka kb : List (K × Value)} {r : Bool} (ha : (a == sysModules) = false) (hb : (b == sysModules) = false)
    (da : s.heap.DictOf knd a ka) (db : s.heap.DictOf knd b kb) (hu : A.units < cLine) (hits : ka.length = kb.length → PySem.W.KeqHitsP prog w A.in1 s kb ka r) (E Q : Value → Shared → Prop) (h : Q (.bool (!(ka.length == kb.length && r))) s) : wpAny (model prog w) A (compareOp .NotEq (.ref a) (.ref b)) Q E s := by
  refine wpAny_richCompare_same_room (op := .NotEq) da.typeIs db.typeIs PySem.F.slot_dict_ne (wpAny_call_entry PySem.F.slot_dict_ne da.typeIs PySem.F.entry_dict_ne ?_ (PySem.F.args_dict_ne_2 _ _)) hu
  show wpAny _ _ (Builtin.Dict.dictSlotArgs "__ne__" ⟨[.ref a, .ref b], []⟩ >>= _) _ _ s
  refine wpAny_bind ?_
  unfold Builtin.Dict.dictSlotArgs
  refine wpAny_bind (wpAny_notOrdered_dict da.typeIs ?_)
  show wpAny _ _ (pure (Value.ref a, Value.ref b)) _ _ s
  refine wpAny_pure ?_
  refine wpAny_bind (wpAny_isInstance (T := "dict") db.typeIs PySem.F.sub_dict_dict ?_)
  simp only [Bool.not_true, Bool.false_eq_true, if_false]
  refine wpAny_bind (wpAny_pure (wpAny_bind (wpAny_pure ?_)))
  refine wpAny_bind (PySem.W.samePairsP ha hb da db hits ?_)
  refine wpAny_pure ⟨_, rfl, ?_, ?_⟩
  · exact fun x => nomatch x
  · simpa using h
def rNeV (K : PySem.W.Frag) : R2 := fun x y H Q => ∃ n, n ≤ 60 ∧ (∃ a b ks ls, x = .ref a ∧ y = .ref b ∧ H a = some (.dK ks) ∧ H b = some (.dK ls) ∧ ks.length = ls.length ∧ ∀ p ∈ ks, ∃ u, valV ls p.1 = some u ∧ EqV K H n p.2 u) ∧ Q (.bl false) H
theorem op_neV (hu : X.A.units + 64 < cLine) : OpR X (compareOp .NotEq) (rNeV X.K) := by
  intro pins s σ H x y v u Q I rx ry h
  obtain ⟨n, hn, ⟨a, b, ks, ls, rfl, rfl, ha, hb, hl, hp⟩, q⟩ := h
  cases (show v = Value.ref a from rx)
  cases (show u = Value.ref b from ry)
  obtain ⟨_, ya, va, ra, da⟩ := (show ObjOk X.prog X.w H s.heap a (.dK ks) from I.hok a _ ha)
  obtain ⟨_, yb, vb, rb, db⟩ := (show ObjOk X.prog X.w H s.heap b (.dK ls) from I.hok b _ hb)
  refine neP_dicts (knd := mixKind X.prog X.w) (r := true) ya yb da db (by omega) (fun _ => hits_run (eqV_run I n X.A.in1 (by show X.A.units + 1 + n < cLine; omega)) rb ra hp) _ _ ?_
  have e : va.length = vb.length := by rw [← ra.length, ← rb.length]; exact hl
  rw [show (!(va.length == vb.length && true)) = false from by rw [e]; simp]
  exact ⟨.bl false, H, I, rfl, q⟩
/- equal, deep: what the same data stand for -/
def DeepEq {α : Type} (K : PySem.W.Frag) (C : Cd α) : Prop := ∀ a v w F H, FEx F H → C.rep a v F → C.rep a w F → EqV K H 3 v w
theorem deep_flat {α : Type} {K : PySem.W.Frag} {C : Cd α} (fl : ∀ a v F, C.rep a v F → flatB v = true) (un : ∀ a v w F, C.rep a v F → C.rep a w F → v = w) : DeepEq K C := fun a v w F H x h1 h2 => .inl ⟨un _ _ _ _ h1 h2, fl _ _ _ h1⟩
theorem deep_L {K : PySem.W.Frag} : DeepEq K (cL cI) := by
  rintro xs v w F H x ⟨p, vs, rfl, h1, h2⟩ ⟨p', vs', rfl, h1', h2'⟩
  refine .inr (.inr (.inl ⟨p, p', vs, vs', rfl, rfl, SqL.of (lst_of x h1), SqL.of (lst_of x h1'), ?_⟩))
  have e1 := paired_int h2
  have e2 := paired_int h2'
  subst e1
  subst e2
  clear h1 h1' h2 h2'
  induction xs with
  | nil => exact .nil
  | cons a r ih => exact .cons (.inl ⟨rfl, rfl⟩) ih
def pNeDict {α : Type} [DecidableEq α] (kvs ls : List (Int × α)) : Option Bool := if kvs.length = ls.length ∧ ∀ p ∈ kvs, lookD ls p.1 = some p.2 then some false else none
theorem je_neDict {a c : Expr} {pos : Pos} {α : Type} [DecidableEq α] {C : Cd α} (dp : DeepEq X.K C) {m1 m2 : Option (List (Int × α))} (hu : X.A.units + 64 < cLine) (ha : JE X true a Γ (fr (cD C)) m1) (hc : JE X true c Γ (fr (cD C)) m2) (hm : behindInMarks .NotEq c = false) :
    JE X true (.Compare a [.NotEq] [c] pos) Γ (fr cB) (bind2 m1 m2 pNeDict) := by
  intro F0 H0 σ F H A z ez Q q
  obtain ⟨kvs, ls, e1, e2, e3⟩ := bind2_some ez
  unfold pNeDict at e3
  by_cases c : kvs.length = ls.length ∧ ∀ p ∈ kvs, lookD ls p.1 = some p.2
  case neg => rw [if_neg c] at e3; cases e3
  rw [if_pos c] at e3
  cases e3
  refine wE_of (pe_cmpR (op_neV hu) pe_w pe_w hm) ?_
  refine ha F0 H0 σ F H A kvs e1 _ fun v F1 H1 g1 r1 => ?_
  refine hc F0 H0 σ F1 H1 (A.grow g1) ls e2 _ fun w F2 H2 g2 r2 => ?_
  obtain ⟨p, ks, rfl, h1, h2⟩ := r1
  obtain ⟨p', ks', rfl, h1', h2'⟩ := r2
  have A2 := (A.grow g1).grow g2
  have h2 := paired_mono h2 fun _ _ (q : _ ∧ _) => (⟨q.1, C.mono _ _ _ _ g2.fs q.2⟩ : _ ∧ C.rep _ _ F2)
  refine ⟨3, by omega, ⟨p, p', ks, ks', rfl, rfl, A2.gr.fx.un (A2.nl rfl) (g2.fs _ _ h1), A2.gr.fx.un (A2.nl rfl) h1', ?_, fun kv hkv => ?_⟩, q _ F2 H2 (g1.trans g2) rfl⟩
  · rw [← paired_len h2, ← paired_len h2', c.1]
  · obtain ⟨i, hi, e⟩ := List.getElem_of_mem hkv
    obtain ⟨a, ha, ra, rv⟩ := paired_ix h2 (i := i) (by rw [List.getElem?_eq_getElem hi, e])
    obtain ⟨v, e4, r4⟩ := (paired_look a.1 h2').1 a.2 (c.2 a (List.mem_of_getElem? ha))
    rw [ra]
    exact ⟨v, e4, dp _ _ _ _ _ g2.fx rv r4⟩
theorem jt_neDict {a c : Expr} {pos : Pos} {α : Type} [DecidableEq α] {C : Cd α} (dp : DeepEq X.K C) {m1 m2 : Option (List (Int × α))} (hu : X.A.units + 64 < cLine) (ha : JE X true a Γ (fr (cD C)) m1) (hc : JE X true c Γ (fr (cD C)) m2) (hm : behindInMarks .NotEq c = false) :
    JT X true (.Compare a [.NotEq] [c] pos) Γ (bind2 m1 m2 pNeDict) := by
  intro F0 H0 σ F H A z ez Q q
  obtain ⟨kvs, ls, e1, e2, e3⟩ := bind2_some ez
  unfold pNeDict at e3
  by_cases c : kvs.length = ls.length ∧ ∀ p ∈ kvs, lookD ls p.1 = some p.2
  case neg => rw [if_neg c] at e3; cases e3
  rw [if_pos c] at e3
  cases e3
  refine wT_of (pt_cmpR (op_neV hu) pe_w pe_w hm) ?_
  refine ha F0 H0 σ F H A kvs e1 _ fun v F1 H1 g1 r1 => ?_
  refine hc F0 H0 σ F1 H1 (A.grow g1) ls e2 _ fun w F2 H2 g2 r2 => ?_
  obtain ⟨p, ks, rfl, h1, h2⟩ := r1
  obtain ⟨p', ks', rfl, h1', h2'⟩ := r2
  have A2 := (A.grow g1).grow g2
  have h2 := paired_mono h2 fun _ _ (q : _ ∧ _) => (⟨q.1, C.mono _ _ _ _ g2.fs q.2⟩ : _ ∧ C.rep _ _ F2)
  refine ⟨3, by omega, ⟨p, p', ks, ks', rfl, rfl, A2.gr.fx.un (A2.nl rfl) (g2.fs _ _ h1), A2.gr.fx.un (A2.nl rfl) h1', ?_, fun kv hkv => ?_⟩, false, rfl, q F2 H2 (g1.trans g2)⟩
  · rw [← paired_len h2, ← paired_len h2', c.1]
  · obtain ⟨i, hi, e⟩ := List.getElem_of_mem hkv
    obtain ⟨a, ha, ra, rv⟩ := paired_ix h2 (i := i) (by rw [List.getElem?_eq_getElem hi, e])
    obtain ⟨v, e4, r4⟩ := (paired_look a.1 h2').1 a.2 (c.2 a (List.mem_of_getElem? ha))
    rw [ra]
    exact ⟨v, e4, dp _ _ _ _ _ g2.fx rv r4⟩
end
end Cw
/- CwExp15: defs that raise; try .. except .. as. -/
namespace Cw
open PySem PySem.Spec L2
open PyProof.Rows hiding St
/- what a def ends in: a value, or an exception of the class named -/
inductive Ret (R : Type) where
  | ok (r : R)
  | ex (nm : Str)
def PostX (X : Cx) (W : WX) {S R : Type} (b : Bool) (F0 H0 : Hp) (Γs : S → List En) (k : Rk R) (o : Out S (Ret R)) (D : Ends) : Prop :=
  match o with
  | .nx s => ∀ σ' F' H', Sat b F0 H0 (Γs s) σ' F' H' → D.nx σ' H'
  | .rt (.ok r) => ∀ v F' H', Grow F0 H0 F' H' → k.p r v H0 F' H' → D.rt v H'
  | .rt (.ex nm) => ∀ σ' F' H' c, Grow F0 H0 F' H' → X.mg nm = some c → W c none σ' H'
def JBX (X : Cx) (W : WX) (b : Bool) (sts : List Stmt) (Γ : List En) {S R : Type} (Γs : S → List En) (k : Rk R) (m : Option (Out S (Ret R))) : Prop :=
  ∀ F0 H0 σ F H, Sat b F0 H0 Γ σ F H → ∀ o, m = some o → ∀ D : Ends, PostX X W b F0 H0 Γs k o D → wS X sts D σ H
theorem PostX.unbase {X : Cx} {W : WX} {b : Bool} {S R : Type} {Γs : S → List En} {k : Rk R} {F0 H0 F1 H1 : Hp} {o : Out S (Ret R)} {D : Ends} (g : Grow F0 H0 F1 H1) (P : PostX X W b F0 H0 Γs k o D) : PostX X W b F1 H0 Γs k o D := by
  cases o with
  | nx s => exact fun σ' F' H' A => P σ' F' H' (A.unbase g)
  | rt r =>
    cases r with
    | ok r => exact fun v F' H' h q => P v F' H' (g.unbase h) q
    | ex nm => exact fun σ' F' H' c h e => P σ' F' H' c (g.unbase h) e
theorem PostX.mv {X : Cx} {W : WX} {b : Bool} {S S' R : Type} {Γs : S → List En} {Γs' : S' → List En} {k : Rk R} {F0 H0 : Hp} {r : Ret R} {D D' : Ends} (P : PostX X W b F0 H0 Γs k (.rt r) D) (h : D'.rt = D.rt) : PostX X W b F0 H0 Γs' k (.rt r) D' := by
  cases r with
  | ok a => intro v F' H' g q; rw [h]; exact P v F' H' g q
  | ex nm => exact P
def okO {S R : Type} : Out S R → Out S (Ret R)
  | .nx s => .nx s
  | .rt r => .rt (.ok r)
section
variable {X : Cx} {W : WX} {b : Bool} {Γ Γ' : List En} {S R : Type} {Γs : S → List En} {k : Rk R} {rest : List Stmt}
theorem jbx_nil {s : S} (h : EnvLe Γ (Γs s)) : JBX X W b [] Γ Γs k (some (.nx s)) := by
  intro F0 H0 σ F H A o ho D P
  cases ho
  exact wS_of pss_nil (P σ F H (A.le h))
theorem jbx_weak {sts : List Stmt} {m : Option (Out S (Ret R))} (h : JBX X W b sts Γ' Γs k m) (e : EnvLe Γ Γ') : JBX X W b sts Γ Γs k m := fun F0 H0 σ F H A o ho D P => h F0 H0 σ F H (A.le e) o ho D P
theorem jbx_asg {i : Nat} {x : Str} {e : Expr} {pos pos' : Pos} {α : Type} {C : Cd α} {m : Option α} {f : α → Option (Out S (Ret R))} (hN : X.N.Nodup) (hi : X.N[i]? = some x) (hx : Loc X.env.scope x) (he : JE X b e Γ (fr C) m)
    (hr : ∀ a, JBX X W b rest (Γ.set i (.fz (C.at a))) Γs k (f a)) (hs : swapsWith e (some (.Name x pos')) pos.line X.env = pure false := by rfl)
    (hf : X.fn x = true ∨ X.env.scope.names.lookup x = some .local := by first | exact .inl rfl | exact .inr rfl | assumption) :
    JBX X W b (.Assign [.Name x pos'] e pos :: rest) Γ Γs k (m.bind f) := by
  intro F0 H0 σ F H A o ho D P
  obtain ⟨a, h1, h2⟩ := bind_some ho
  refine wS_of (pss_cons (ps_set hN hi hx pe_w hs hf) pss_w) ?_
  exact he F0 H0 σ F H A a h1 _ fun v F' H' g q => hr a F0 H0 _ F' H' ((A.grow g).put q) o h2 D P
theorem jbx_asgN {i : Nat} {x : Str} {e : Expr} {pos pos' : Pos} {α : Type} {M : α → MFact} {m : Option α} {f : α → Option (Out S (Ret R))} (hN : X.N.Nodup) (hi : X.N[i]? = some x) (hx : Loc X.env.scope x) (he : JE X b e Γ (nw M) m)
    (hr : ∀ a, JBX X W b rest (Γ.set i (.mu (M a))) Γs k (f a)) (hs : swapsWith e (some (.Name x pos')) pos.line X.env = pure false := by rfl)
    (hf : X.fn x = true ∨ X.env.scope.names.lookup x = some .local := by first | exact .inl rfl | exact .inr rfl | assumption) :
    JBX X W b (.Assign [.Name x pos'] e pos :: rest) Γ Γs k (m.bind f) := by
  intro F0 H0 σ F H A o ho D P
  obtain ⟨a, h1, h2⟩ := bind_some ho
  refine wS_of (pss_cons (ps_set hN hi hx pe_w hs hf) pss_w) ?_
  refine he F0 H0 σ F H A a h1 _ fun v F' H' g q => ?_
  obtain ⟨l, ob, rfl, q1, q2, q3, q4⟩ := q
  exact hr a F0 H0 _ F' H' (A.ownNew g q1 q2 q3 q4) o h2 D P
theorem jbx_expr {e : Expr} {pos : Pos} {α : Type} {k' : Rk α} {m : Option α} {f : α → Option (Out S (Ret R))} (he : JE X b e Γ k' m) (hr : ∀ a, JBX X W b rest Γ Γs k (f a)) (hs : swapsWith e none pos.line X.env = pure false := by rfl) :
    JBX X W b (.Expr e pos :: rest) Γ Γs k (m.bind f) := by
  intro F0 H0 σ F H A o ho D P
  obtain ⟨a, h1, h2⟩ := bind_some ho
  refine wS_of (pss_cons (ps_expr pe_w hs) pss_w) ?_
  exact he F0 H0 σ F H A a h1 _ fun v F' H' g q => hr a F0 H0 _ F' H' (A.grow g) o h2 D P
theorem jbx_doc {x j p pos} {m : Option (Out S (Ret R))} (h : JBX X W b rest Γ Γs k m) : JBX X W b (.Expr (.Constant (.str x) j p) pos :: rest) Γ Γs k m := by
  intro F0 H0 σ F H A o ho D P
  exact wS_of (pss_cons ps_doc pss_w) (h F0 H0 σ F H A o ho D P)
theorem jbx_frz {i : Nat} {ψ : MFact} {φ : Fact} {sts : List Stmt} {m : Option (Out S (Ret R))} (hg : Γ[i]? = some (.mu ψ)) (hq : ∀ l o F, F l = none → ψ.p o F → φ.p (.ref l) (upd F l o)) (h : JBX X W b sts (Γ.set i (.fz φ)) Γs k m) : JBX X W b sts Γ Γs k m := by
  intro F0 H0 σ F H A o ho D P
  obtain ⟨l, ob, _, _, _, _, A'⟩ := A.frz hg hq
  exact h F0 H0 σ _ H A' o ho D P
theorem jbx_if {c : Expr} {p : Pos} {yes no : List Stmt} {S' : Type} {Γj : S' → List En} {mc : Option Bool} {m1 m2 : Option (Out S' (Ret R))} {f : S' → Option (Out S (Ret R))} (hc : JT X b c Γ mc) (h1 : JBX X W b yes Γ Γj k m1) (h2 : JBX X W b no Γ Γj k m2)
    (hr : ∀ s, JBX X W b rest (Γj s) Γs k (f s)) : JBX X W b (.If c yes no p :: rest) Γ Γs k (mc.bind fun t => (if t = true then m1 else m2).bind (seqO f)) := by
  intro F0 H0 σ F H A o ho D P
  obtain ⟨t, e1, e2⟩ := bind_some ho
  obtain ⟨o1, e3, e4⟩ := bind_some e2
  refine wS_of (pss_cons (ps_if pt_w (pss_w (sts := yes)) (pss_w (sts := no))) pss_w) ?_
  refine hc F0 H0 σ F H A t e1 _ fun F' H' g => ?_
  have A' := A.grow g
  have PP : PostX X W b F0 H0 Γj k o1 { D with nx := wS X rest D } := by
    cases o1 with
    | nx s => exact fun σ' F'' H'' A'' => hr s F0 H0 σ' F'' H'' A'' o e4 D P
    | rt r => cases e4; exact P.mv rfl
  cases t with
  | true =>
    rw [if_pos rfl] at e3 ⊢
    exact h1 F0 H0 σ F' H' A' o1 e3 _ PP
  | false =>
    rw [if_neg Bool.false_ne_true] at e3 ⊢
    exact h2 F0 H0 σ F' H' A' o1 e3 _ PP
theorem jbx_ifr {c : Expr} {p : Pos} {yes : List Stmt} {mc : Option Bool} {m1 : Option (Out Empty (Ret R))} {m2 : Option (Out S (Ret R))} (hc : JT X b c Γ mc) (h1 : JBX X W b yes Γ (fun _ : Empty => []) k m1)
    (hr : JBX X W b rest Γ Γs k m2) : JBX X W b (.If c yes [] p :: rest) Γ Γs k (mc.bind fun t => if t = true then m1.bind (seqO noE) else m2) := by
  intro F0 H0 σ F H A o ho D P
  obtain ⟨t, e1, e2⟩ := bind_some ho
  refine wS_of (pss_cons (ps_if pt_w (pss_w (sts := yes)) pss_nil) pss_w) ?_
  refine hc F0 H0 σ F H A t e1 _ fun F' H' g => ?_
  have A' := A.grow g
  cases t with
  | true =>
    rw [if_pos rfl] at e2 ⊢
    obtain ⟨o1, e3, e4⟩ := bind_some e2
    cases o1 with
    | nx s => exact s.elim
    | rt r =>
      cases e4
      exact h1 F0 H0 σ F' H' A' (.rt r) e3 _ (P.mv rfl)
  | false =>
    rw [if_neg Bool.false_ne_true] at e2 ⊢
    exact hr F0 H0 σ F' H' A' o e2 D P
theorem jbx_if2 {c : Expr} {p : Pos} {yes no : List Stmt} {mc : Option Bool} {m1 m2 : Option (Out Empty (Ret R))} (hc : JT X b c Γ mc) (h1 : JBX X W b yes Γ (fun _ : Empty => []) k m1)
    (h2 : JBX X W b no Γ (fun _ : Empty => []) k m2) : JBX X W b (.If c yes no p :: rest) Γ Γs k (mc.bind fun t => (if t = true then m1 else m2).bind (seqO noE)) :=
  jbx_if hc h1 h2 fun s => s.elim
theorem jbx_for {i : Nat} {x : Str} {iter : Expr} {body : List Stmt} {p px : Pos} {α : Type} {C : Cd α} {m : Option (List α)} {T : Type} {Γj : T → List En} {s0 : T} {mb : T → α → Option (Out T (Ret R))} {f : T → Option (Out S (Ret R))}
    (hp : PassesOwn (model X.prog X.w) X.A X.env X.xe) (hcalm : X.calm = true) (hN : X.N.Nodup) (hi : X.N[i]? = some x) (hx : Loc X.env.scope x) (hit : JI X b (.Name x px) iter Γ C m) (h0 : EnvLe Γ (Γj s0))
    (hb : ∀ s a, JBX X W b body ((Γj s).set i (.fz (C.at a))) Γj k (mb s a)) (hr : ∀ s, JBX X W b rest (Γj s) Γs k (f s)) (hs : ∀ x, foldedSetIterable iter X.env x = pure x := by intro _; rfl)
    (hf : X.fn x = true ∨ X.env.scope.names.lookup x = some .local := by first | exact .inl rfl | exact .inr rfl | assumption) :
    JBX X W b (.For (.Name x px) iter body [] p :: rest) Γ Γs k (m.bind fun xs => (forO mb xs s0).bind (seqO f)) := by
  intro F0 H0 σ F H A o ho D P
  obtain ⟨xs, hxs, ho⟩ := bind_some ho
  obtain ⟨o1, e1, e2⟩ := bind_some ho
  refine wS_of (pss_cons (ps_for hp hcalm pi_w (pg_name hN hi hx hf) (pss_w (sts := body)) hs) pss_w) ?_
  refine hit F0 H0 σ F H A xs hxs _ fun J F1 H1 vs g it pr => ?_
  obtain ⟨G, Y, w, hG, hY⟩ := it.ok
  have A1 := (A.grow g).rebase
  have P1 : PostX X W b F1 H0 Γs k o D := P.unbase (A.grow g).gr
  have hl : xs.length = vs.length := Paired.length pr
  refine for_it w (fun n σ H => ∃ s F, Sat b F1 H0 (Γj s) σ F H ∧ forO mb (xs.drop n) s = some o1) ⟨s0, F1, A1.le h0, e1⟩ ?_ ?_ ?_
  · rintro n σ2 H2 hn ⟨s, F2, A2, _⟩
    exact hG H2 fun a u e => A2.gr.fx a u (A2.gr.fs a u e)
  · rintro n v σ2 H2 H3 hn ⟨s, F2, A2, e3⟩ y
    obtain ⟨rfl, hv⟩ := hY n H2 v H3 (fun a u e => A2.gr.fx a u (A2.gr.fs a u e)) hn y
    obtain ⟨a, ha, ra⟩ := paired_ix pr hv
    have hd : xs.drop n = a :: xs.drop (n + 1) := by
      obtain ⟨q1, q2⟩ := List.getElem?_eq_some_iff.mp ha
      rw [List.drop_eq_getElem_cons q1, q2]
    rw [hd] at e3
    obtain ⟨o2, e5, e6⟩ := bind_some (show (mb s a).bind (seqO (forO mb (xs.drop (n + 1)))) = some o1 from e3)
    refine hb s a F1 H0 _ F2 _ (A2.put (C.mono _ _ _ _ A2.gr.fs ra)) o2 e5 _ ?_
    cases o2 with
    | nx s' => exact fun σ' F' H' A' => ⟨s', F', A', e6⟩
    | rt r =>
      cases e6
      cases e2
      exact P1.mv rfl
  · rintro σ2 H2 ⟨s, F2, A2, e3⟩
    rw [← hl, List.drop_length] at e3
    cases e3
    exact hr s F1 H0 σ2 F2 H2 A2 o e2 D P1

/- what raises nothing -/
theorem jbx_lift {sts : List Stmt} {m : Option (Out S R)} (h : JB X.nox b sts Γ Γs k m) : JBX X W b sts Γ Γs k (m.map okO) := by
  intro F0 H0 σ F H A o ho D P
  cases e : m with
  | none => rw [e] at ho; cases ho
  | some o1 =>
    rw [e] at ho
    cases ho
    refine wS_of (PSs.nox (pss_w (X := X.nox) (sts := sts))) ?_
    refine h F0 H0 σ F H A o1 e D ?_
    cases o1 with
    | nx s => exact P
    | rt r => exact P
theorem jbx_ret {e : Expr} {pos : Pos} {m : Option R} (h : JE X b e Γ k m) : JBX X W b (.Return (some e) pos :: rest) Γ Γs k (m.bind fun a => some (.rt (.ok a))) := by
  intro F0 H0 σ F H A o ho D P
  obtain ⟨a, h1, h2⟩ := bind_some ho
  cases h2
  refine wS_of (pss_cons (ps_ret pe_w) (pss_never (sts := rest))) ?_
  exact h F0 H0 σ F H A a h1 _ fun v F' H' g q => P v F' H' (A.gr.trans g) (k.back _ _ _ _ _ _ A.gr.hs q)
/- an own class of errors: what raise asks of it -/
structure ExK (K : PySem.W.Frag) (mg : Str → Option Value) (nm : Str) (C : Addr) : Prop where
  g : mg nm = some (.ref C)
  x : PySem.W.excIn K C [.type "ValueError", .type "Exception", .type "BaseException", .type "object"] "ValueError.__new__" = true
  k : PySem.W.keepIn K (.ref C) = true
  b : PySem.W.subIn K (.ref C) (.type "BaseException") = some true
  t : PySem.W.typeIn K (.ref C) = some (.type "type")
theorem jbx_raise {x ms : Str} {C : Addr} {j : Nat} {p p2 pos pos' : Pos} (E : ExK X.K X.mg x C) (tk : Takes X W) (hc : X.calm = true) (hg : Gl X x) (hdb : (x == ("__debug__" : Str)) = false := by decide) :
    JBX X W b (.Raise (some (.Call (.Name x p) [.Constant (.str ms) j p2] [] pos)) none pos' :: rest) Γ Γs k (some (.rt (.ex x))) := by
  intro F0 H0 σ F H A o ho D P
  cases ho
  refine wS_of (pss_cons (ps_raise hc tk (pmk_own PySem.F.excBase_ValueError E.x E.g E.k (raises_own E.b E.t) hg hdb)) (pss_never (sts := rest))) ?_
  exact P σ F H _ A.gr E.g
/- ## defs -/
def SpX {A R : Type} (mg : Str → Option Value) (b : Bool) (φs : A → List Fact) (m : A → Option (Ret R)) (k : Rk R) : Sp := fun vs H Q E =>
  ∃ x F r, FEx F H ∧ (b = true → NoLk H) ∧ Args (φs x) vs F ∧ m x = some r ∧ (∀ a, r = .ok a → ∀ v F' H', Grow F H F' H' → k.p a v H F' H' → Q v H') ∧ ∀ nm, r = .ex nm → ∀ c F' H', mg nm = some c → Grow F H F' H' → E c none H'
def outX {R : Type} : Out Unit (Ret R) → Option (Ret R)
  | .rt r => some r
  | .nx _ => none
def outXU : Out Unit (Ret Unit) → Option (Ret Unit)
  | .rt r => some r
  | .nx _ => some (.ok ())
end
section
variable {P : Program} {w : World} {K : PySem.W.Frag} {mg : Str → Option Value} {base : Heap}
theorem fn_gX {x qual : Str} {st : Stmt} {f : Addr} {fd : FuncData} {N ps : List Str} {j : Nat} {A R : Type} {b : Bool} {φs : A → List Fact} {mo : A → Option (Out Unit (Ret R))} {k : Rk R} (Fu : Fun K x qual st f fd) (S : FnScope N ps (defScope st)) (hl : ∀ x, (φs x).length = ps.length)
    (body : ∀ (X : Cx) (x : A) (E : XK), (∃ cdv Ar outer s H, X = cxOf (L2.CX P w) P w K mg base N qual (defScope st) f cdv Ar outer s H E) → Room j X.A → Takes X (fun cls d _ H => E cls d H) → JBX X (fun cls d _ H => E cls d H) b (defBody st) (env0 (φs x) (N.length - ps.length)) (fun _ : Unit => List.replicate N.length .no) k (mo x)) :
    FnOk P w K mg base (L2.CX P w) (j + 1) f fd ps (SpX mg b φs (fun x => (mo x).bind outX) k) := by
  refine Fu.okX S (fun vs H Q E h => ?_) (fun cdv Ar outer s H vs Q E hr h => ?_)
  · obtain ⟨x, F, r, _, _, h, _⟩ := h
    exact (Paired.length h).symm.trans (hl x)
  · obtain ⟨x, F, r, fx, n, h, hm, q1, q2⟩ := h
    obtain ⟨o, h1, h2⟩ := bind_some hm
    refine ⟨_, pss_w, ?_⟩
    have hpl : ps.length ≤ N.length := by have := congrArg List.length S.pre; rw [List.length_take] at this; omega
    have A := sat0 (N := N) fx n h (by rw [hl]; exact hpl)
    rw [hl x] at A
    refine body _ x E ⟨cdv, Ar, outer, s, H, rfl⟩ hr (takes_of rfl rfl rfl rfl) F H _ F H A o h1 _ ?_
    cases o with
    | nx s => cases h2
    | rt r' =>
      cases h2
      cases r with
      | ok a => exact fun v F' H' g p => q1 a rfl v F' H' g p
      | ex nm => exact fun σ' F' H' c g e => q2 nm rfl c F' H' e g
/- a def that hands back None -/
theorem fn_gXN {x qual : Str} {st : Stmt} {f : Addr} {fd : FuncData} {N ps : List Str} {j : Nat} {A : Type} {b : Bool} {φs : A → List Fact} {mo : A → Option (Out Unit (Ret Unit))} {k : Rk Unit} (hk : ∀ H F' H', k.p () .non H F' H') (Fu : Fun K x qual st f fd) (S : FnScope N ps (defScope st)) (hl : ∀ x, (φs x).length = ps.length)
    (body : ∀ (X : Cx) (x : A) (E : XK), (∃ cdv Ar outer s H, X = cxOf (L2.CX P w) P w K mg base N qual (defScope st) f cdv Ar outer s H E) → Room j X.A → Takes X (fun cls d _ H => E cls d H) → JBX X (fun cls d _ H => E cls d H) b (defBody st) (env0 (φs x) (N.length - ps.length)) (fun _ : Unit => List.replicate N.length .no) k (mo x)) :
    FnOk P w K mg base (L2.CX P w) (j + 1) f fd ps (SpX mg b φs (fun x => (mo x).bind outXU) k) := by
  refine Fu.okX S (fun vs H Q E h => ?_) (fun cdv Ar outer s H vs Q E hr h => ?_)
  · obtain ⟨x, F, r, _, _, h, _⟩ := h
    exact (Paired.length h).symm.trans (hl x)
  · obtain ⟨x, F, r, fx, n, h, hm, q1, q2⟩ := h
    obtain ⟨o, h1, h2⟩ := bind_some hm
    refine ⟨_, pss_w, ?_⟩
    have hpl : ps.length ≤ N.length := by have := congrArg List.length S.pre; rw [List.length_take] at this; omega
    have A := sat0 (N := N) fx n h (by rw [hl]; exact hpl)
    rw [hl x] at A
    refine body _ x E ⟨cdv, Ar, outer, s, H, rfl⟩ hr (takes_of rfl rfl rfl rfl) F H _ F H A o h1 _ ?_
    cases o with
    | nx s => cases h2; exact fun σ' F' H' A' => q1 () rfl _ F' H' A'.gr (hk _ _ _)
    | rt r' =>
      cases h2
      cases r with
      | ok a => exact fun v F' H' g p => q1 a rfl v F' H' g p
      | ex nm => exact fun σ' F' H' c g e => q2 nm rfl c F' H' e g
def CalX (P : Program) (w : World) (K : PySem.W.Frag) (mg : Str → Option Value) (base : Heap) (k : Nat) (x : Str) (ps : List Str) (sp : Sp) : Prop :=
  ∃ (f : Addr) (fd : FuncData), FnOk P w K mg base (L2.CX P w) k f fd ps sp ∧ mg x = some (.ref f) ∧ PySem.W.keepIn K (.ref f) = true ∧ Binds K fd ps []
end
/- ## calls -/
section
variable {X : Cx} {W : WX} {b : Bool} {Γ : List En}
/- a call that may raise, as an expression: what it gives, what it lets out -/
def JEX (X : Cx) (W : WX) (b : Bool) (e : Expr) (Γ : List En) {α : Type} (k : Rk α) (m : Option (Ret α)) : Prop :=
  ∀ F0 H0 σ F H, Sat b F0 H0 Γ σ F H → ∀ r, m = some r → ∀ Q : VK, (∀ a, r = .ok a → ∀ v F' H', Grow F H F' H' → k.p a v H F' H' → Q v H') → (∀ nm, r = .ex nm → ∀ c F' H', X.mg nm = some c → Grow F H F' H' → W c none σ H') → wE X e σ H Q
theorem jex_call {x : Str} {p pos : Pos} {e : Expr} {es : List Expr} {ps : List Str} {j n : Nat} {A R : Type} {b' : Bool} {φs : A → List Fact} {m : A → Option (Ret R)} {k : Rk R} {ma : Option A}
    {φs' : A → List Fact} (c : CalX X.prog X.w X.K X.mg X.base j x ps (SpX X.mg b' φs m k)) (tk : Takes X W) (hr : Room n X.A) (hg : Gl X x) (ha : JA X b (e :: es) Γ φs' ma) (hbb : j ≤ n ∧ (b' = true → b = true)) (hφ : φs' = φs := by rfl) (hdb : (x == ("__debug__" : Str)) = false := by decide)
    (he : starEach (e :: es) X.env = (false, eval e X.env) :: starEach es X.env := by rfl) (hpl : (backTo pos (starEach es X.env)).any (·.1) = false := by rfl) : JEX X W b (.Call (.Name x p) (e :: es) [] pos) Γ k (ma.bind m) := by
  obtain ⟨f, fd, Fn, h1, h2, h3⟩ := c
  subst hφ
  intro F0 H0 σ F H A r er Q q1 q2
  obtain ⟨a, e1, e2⟩ := bind_some er
  refine wE_of (pe_callS Fn (hr.mono hbb.1) hg h1 h2 h3 (fun σ => passAt tk σ) pa_w hdb he hpl) ?_
  refine ha F0 H0 σ F H A a e1 _ fun vs F1 H1 g1 r1 => ?_
  exact ⟨a, F1, r, g1.fx, fun z => (A.grow g1).nl (hbb.2 z), r1, e2, fun a ea v F2 H2 g2 r2 => q1 a ea v F2 H2 (g1.trans g2) (k.back _ _ _ _ _ _ g1.hs r2), fun nm en c F2 H2 ec g2 => q2 nm en c F2 H2 ec (g1.trans g2)⟩
section
variable {S R : Type} {Γs : S → List En} {k : Rk R} {rest : List Stmt}
def thenX {α S R : Type} (f : α → Option (Out S (Ret R))) : Ret α → Option (Out S (Ret R))
  | .ok a => f a
  | .ex nm => some (.rt (.ex nm))
theorem jbx_exprX {e : Expr} {pos : Pos} {α : Type} {k' : Rk α} {m : Option (Ret α)} {f : α → Option (Out S (Ret R))} (he : JEX X W b e Γ k' m) (hr : ∀ a, JBX X W b rest Γ Γs k (f a)) (hs : swapsWith e none pos.line X.env = pure false := by rfl) :
    JBX X W b (.Expr e pos :: rest) Γ Γs k (m.bind (thenX f)) := by
  intro F0 H0 σ F H A o ho D P
  obtain ⟨r, h1, h2⟩ := bind_some ho
  refine wS_of (pss_cons (ps_expr pe_w hs) pss_w) ?_
  refine he F0 H0 σ F H A r h1 _ (fun a ea v F' H' g q => ?_) (fun nm en c F' H' ec g => ?_)
  · subst ea
    exact hr a F0 H0 _ F' H' (A.grow g) o h2 D P
  · subst en
    cases h2
    exact P σ F' H' c (A.gr.trans g) ec
theorem jbx_asgX {i : Nat} {x : Str} {e : Expr} {pos pos' : Pos} {α : Type} {C : Cd α} {m : Option (Ret α)} {f : α → Option (Out S (Ret R))} (hN : X.N.Nodup) (hi : X.N[i]? = some x) (hx : Loc X.env.scope x) (he : JEX X W b e Γ (fr C) m)
    (hr : ∀ a, JBX X W b rest (Γ.set i (.fz (C.at a))) Γs k (f a)) (hs : swapsWith e (some (.Name x pos')) pos.line X.env = pure false := by rfl)
    (hf : X.fn x = true ∨ X.env.scope.names.lookup x = some .local := by first | exact .inl rfl | exact .inr rfl | assumption) :
    JBX X W b (.Assign [.Name x pos'] e pos :: rest) Γ Γs k (m.bind (thenX f)) := by
  intro F0 H0 σ F H A o ho D P
  obtain ⟨r, h1, h2⟩ := bind_some ho
  refine wS_of (pss_cons (ps_set hN hi hx pe_w hs hf) pss_w) ?_
  refine he F0 H0 σ F H A r h1 _ (fun a ea v F' H' g q => ?_) (fun nm en c F' H' ec g => ?_)
  · subst ea
    exact hr a F0 H0 _ F' H' ((A.grow g).put q) o h2 D P
  · subst en
    cases h2
    exact P σ F' H' c (A.gr.trans g) ec
theorem jbx_retX {e : Expr} {pos : Pos} {m : Option (Ret R)} (h : JEX X W b e Γ k m) : JBX X W b (.Return (some e) pos :: rest) Γ Γs k (m.bind fun r => some (.rt r)) := by
  intro F0 H0 σ F H A o ho D P
  obtain ⟨r, h1, h2⟩ := bind_some ho
  cases h2
  refine wS_of (pss_cons (ps_ret pe_w) (pss_never (sts := rest))) ?_
  refine h F0 H0 σ F H A r h1 _ (fun a ea v F' H' g q => ?_) (fun nm en c F' H' ec g => ?_)
  · subst ea
    exact P v F' H' (A.gr.trans g) (k.back _ _ _ _ _ _ A.gr.hs q)
  · subst en
    exact P σ F' H' c (A.gr.trans g) ec
end
end
/- ## try -/
/- None, or a value -/
def cP {α : Type} (C : Cd α) : Cd (Option α) where
  rep := fun a v F => match a with
    | none => v = .non
    | some x => C.rep x v F
  mono := fun a v F F' s r => by
    cases a with
    | none => exact r
    | some x => exact C.mono _ _ _ _ s r
section
variable {X : Cx} {b : Bool} {Γ : List En}
theorem je_nonP {j pos} {α : Type} {C : Cd α} : JE X b (.Constant .none j pos) Γ (fr (cP C)) (some none) := je_of pe_non (fun _ _ _ q => q) fun _ => rfl
theorem je_ofP {e : Expr} {α : Type} {C : Cd α} {m : Option (Option α)} (h : JE X b e Γ (fr (cP C)) m) : JE X b e Γ (fr C) (m.bind id) := by
  intro F0 H0 σ F H A a ea Q q
  obtain ⟨x, h1, h2⟩ := bind_some ea
  cases x with
  | none => cases h2
  | some x =>
    cases h2
    exact h F0 H0 σ F H A _ h1 Q fun v F' H' g r => q v F' H' g r
/- what isinstance says of an exception in a suite -/
def exSub (nm T : Str) : Bool := decide (nm = T) || decide (T = ("ValueError" : Str))
structure ExI (K : PySem.W.Frag) (mg : Str → Option Value) (nm : Str) (ts : List (Value × Bool)) : Prop where
  is : ∀ c, mg nm = some c → ∃ D, c = .ref D ∧ ExcC K D ∧ ∀ p ∈ ts, PySem.W.kitOne K (.ref D) p.1 = some p.2
theorem je_isE {i : Nat} {x T : Str} {p p2 p3 pos : Pos} {a D : Addr} {oe : Obj} {pn : List (Addr × Obj)} {c : V} {cv : Value} {t : Bool} (C : ExcC X.K D) (hz : Zc (.ref D) none oe) (hf : ∃ vs, oe.data = .fields vs) (hk : PySem.W.kitOne X.K (.ref D) cv = some t)
    (hg : Gl (X.suite a ((a, oe) :: pn)) "isinstance") (hm : X.mg "isinstance" = none) (hN : X.N[i]? = some x) (hv : Vis X.env.scope x) (hgi : Γ[i]? = some (.fz (isRef a))) (hT : PE (X.suite a ((a, oe) :: pn)) (.Name T p3) (tC c)) (hc : ∀ u, RelV c u → u = cv)
    (hd : (x == ("__debug__" : Str)) = false := by decide) (hcd : (x == ("__classdict__" : Str)) = false := by decide) (hs : starEach [.Name x p2, .Name T p3] X.env = (false, eval (.Name x p2) X.env) :: starEach [.Name T p3] X.env := by rfl) (hs2 : starEach [.Name T p3] X.env = (false, eval (.Name T p3) X.env) :: starEach [] X.env := by rfl) (hpl : (backTo pos (starEach [.Name T p3] X.env)).any (·.1) = false := by rfl) :
    JE (X.suite a ((a, oe) :: pn)) b (.Call (.Name "isinstance" p) [.Name x p2, .Name T p3] [] pos) Γ (fr cB) (some t) := by
  intro F0 H0 σ F H A z ez Q q
  cases ez
  refine wE_of (pe_callB (call_isE C hz hf) hg hm (by decide +kernel) (pa_cons (pe_var (i := i) hN hv hd hcd) (pa_cons hT pa_nil hs2) hs)) ?_
  obtain ⟨v, y1, y2⟩ := A.fz i _ hgi
  cases (show v = .ref a from y2)
  refine ⟨_, y1, ?_⟩
  exact ⟨c, cv, t, rfl, hc, hk, q _ F H (Grow.refl A.gr.fx) rfl⟩
theorem Sat.unset {F0 H0 F H : Hp} {σ : St} {i : Nat} (S : Sat b F0 H0 Γ σ F H) (h : Γ[i]? = some .no) : Sat b F0 H0 Γ (σ.set i none) F H := by
  have ne : ∀ (j : Nat) (e : En), Γ[j]? = some e → e ≠ .no → i ≠ j := fun j e h1 h2 z => by subst z; rw [h] at h1; exact h2 (Option.some.inj h1).symm
  refine ⟨S.gr, S.nl, by rw [List.length_set]; exact S.len, fun j φ e => ?_, fun j ψ e => ?_, fun j k ψ ψ' l e1 e2 e3 e4 => ?_, fun j χ e => ?_, S.ow1⟩
  · rw [List.getElem?_set_ne (ne j _ e (fun z => nomatch z))]; exact S.fz j φ e
  · rw [List.getElem?_set_ne (ne j _ e (fun z => nomatch z))]; exact S.mu j ψ e
  · rw [List.getElem?_set_ne (ne j _ e1 (fun z => nomatch z))] at e3
    rw [List.getElem?_set_ne (ne k _ e2 (fun z => nomatch z))] at e4
    exact S.ne j k ψ ψ' l e1 e2 e3 e4
  · obtain ⟨l, o, R, w⟩ := S.ow j χ e
    refine ⟨l, o, R, w.to (by rw [List.getElem?_set_ne (ne j _ e (fun z => nomatch z))]) (fun a u h1 h2 h3 _ => ⟨h1, h2, h3⟩) (Same.refl _) fun k ψ m e1 e2 => ?_⟩
    rw [List.getElem?_set_ne (ne k _ e1 (fun z => nomatch z))] at e2
    exact .inl ⟨ψ, e1, e2⟩
def catchO {α T R : Type} (nms : List Str) (s0 : α → T) (ms : Str → Option (Out T R)) : Ret α → Option (Out T R)
  | .ok a => some (.nx (s0 a))
  | .ex nm => if nm ∈ nms then ms nm else none
theorem jb_tryAs {S R T α β : Type} {Γs : S → List En} {k : Rk R} {rest : List Stmt} {Γj : T → List En} {i j : Nat} {x n cx : Str} {ce : Expr} {np pos pos' px apos : Pos} {C : Cd α} {C' : Cd β} {c : Value} {b₀ : Stmt} {suite : List Stmt} {g : α → β} {m : Option (Ret α)} {nms : List Str} {s0 : α → T} {ms : Str → Option (Out T R)} {f : T → Option (Out S R)}
    (hst : X.stack = X.env :: X.outer) (hfr : X.env.frame = some X.env.locals) (hN : X.N.Nodup) (hi : X.N[i]? = some n) (hln : X.env.kindOf n = some .local) (hc : Names X cx c) (hj : X.N[j]? = some x) (hx : Loc X.env.scope x)
    (he : ∀ (W : WX) (pn : List (Addr × Obj)) (xe : Value → Shared → Prop), Takes (X.tr pn xe) W → JEX (X.tr pn xe) W b ce Γ (fr C) m) (hg : ∀ a v F, C.rep a v F → C'.rep (g a) v F)
    (hx1 : ∀ nm ∈ nms, ∀ cv, X.mg nm = some cv → PySem.W.exmOne X.K cv c = some true)
    (hsu : ∀ nm ∈ nms, ∀ cv, X.mg nm = some cv → ∀ (a : Addr) (oe : Obj) (pn : List (Addr × Obj)), Zc cv none oe → (∃ vs, oe.data = .fields vs) → JB (X.suite a ((a, oe) :: pn)) b (b₀ :: suite) (Γ.set i (.fz (isRef a))) Γj k (ms nm))
    (hno : ∀ s, (Γj s)[i]? = some .no) (h0 : ∀ a, EnvLe (Γ.set j (.fz (C'.at (g a)))) (Γj (s0 a))) (hr : ∀ s, JB X b rest (Γj s) Γs k (f s))
    (hsw : swapsWith ce (some (.Name x px)) apos.line X.env = pure false := by rfl) (hf : X.fn x = true ∨ X.env.scope.names.lookup x = some .local := by first | exact .inl rfl | exact .inr rfl | assumption) :
    JB X b (.Try [.Assign [.Name x px] ce apos] [.ExceptHandler (some (.Name cx np)) (some n) (b₀ :: suite) pos'] [] [] pos :: rest) Γ Γs k ((m.bind (catchO nms s0 ms)).bind (seqO f)) := by
  intro F0 H0 σ F H A o ho D P
  obtain ⟨o1, e0, e2⟩ := bind_some ho
  obtain ⟨r, e1, e3⟩ := bind_some e0
  refine wS_of (pss_cons (ps_try_as (i := i)
    (tb := fun W => fun D σ H => ∀ pn xe, Takes (X.tr pn xe) W → wS (X.tr pn xe) [.Assign [.Name x px] ce apos] D σ H)
    (ts := fun a cls d => fun D σ H => ∀ oe pn, Zc cls d oe → (∃ vs, oe.data = .fields vs) → wS (X.suite a ((a, oe) :: pn)) (b₀ :: suite) D σ H)
    hst hfr hN hi hln hc takes0 (fun W pn xe tk _ => ⟨fun pins s σ H D I h => (h pn xe tk).get pins s I⟩) (fun a oe cls d pn hz hf => ⟨fun pins s σ H D I h => (h oe pn hz hf).get pins s I⟩)) pss_w) ?_
  intro pn xe tk
  refine wS_of (pss_one (ps_set (X := X.tr pn xe) (i := j) hN hj hx pe_w hsw hf)) ?_
  refine he _ pn xe tk F0 H0 σ F H A r e1 _ (fun a ea v F' H' gg q => ?_) (fun nm en cv F' H' ec gg => ?_)
  · subst ea
    cases e3
    exact hr _ F0 H0 _ F' H' (Sat.le (Sat.put (φ := C'.at (g a)) (A.grow gg) (hg _ _ _ q)) (h0 a)) o e2 D P
  · subst en
    by_cases c1 : nm ∈ nms
    case neg => rw [show catchO nms s0 ms (.ex nm) = none from if_neg c1] at e3; cases e3
    rw [show catchO nms s0 ms (.ex nm) = ms nm from if_pos c1] at e3
    refine ⟨true, hx1 nm c1 cv ec, fun _ a na oe pn hz hf => ?_, fun z => nomatch z⟩
    refine hsu nm c1 cv ec a oe pn hz hf F0 H0 _ F' H' (Sat.put (φ := isRef a) (A.grow gg) rfl) o1 e3 _ ?_
    cases o1 with
    | nx s => exact fun σ' F'' H'' A'' => hr s F0 H0 _ F'' H'' (A''.unset (hno s)) o e2 D P
    | rt r => cases e2; exact P
theorem jb_tryOnly {S R T α : Type} {Γs : S → List En} {k : Rk R} {rest : List Stmt} {Γj : T → List En} {cx : Str} {ce : Expr} {np pos pos' apos : Pos} {kc : Rk α} {c : Value} {b₀ : Stmt} {suite : List Stmt} {m : Option (Ret α)} {nms : List Str} {s0 : α → T} {ms : Str → Option (Out T R)} {f : T → Option (Out S R)}
    (hst : X.stack = X.env :: X.outer) (hfr : X.env.frame = some X.env.locals) (hc : Names X cx c)
    (he : ∀ (W : WX) (pn : List (Addr × Obj)) (xe : Value → Shared → Prop), Takes (X.tr pn xe) W → JEX (X.tr pn xe) W b ce Γ kc m)
    (hx1 : ∀ nm ∈ nms, ∀ cv, X.mg nm = some cv → PySem.W.exmOne X.K cv c = some true)
    (hsu : ∀ nm ∈ nms, ∀ cv, X.mg nm = some cv → ∀ (a : Addr) (oe : Obj) (pn : List (Addr × Obj)), Zc cv none oe → (∃ vs, oe.data = .fields vs) → JB (X.suite a ((a, oe) :: pn)) b (b₀ :: suite) Γ Γj k (ms nm))
    (h0 : ∀ a, EnvLe Γ (Γj (s0 a))) (hr : ∀ s, JB X b rest (Γj s) Γs k (f s)) (hsw : swapsWith ce none apos.line X.env = pure false := by rfl) :
    JB X b (.Try [.Expr ce apos] [.ExceptHandler (some (.Name cx np)) none (b₀ :: suite) pos'] [] [] pos :: rest) Γ Γs k ((m.bind (catchO nms s0 ms)).bind (seqO f)) := by
  intro F0 H0 σ F H A o ho D P
  obtain ⟨o1, e0, e2⟩ := bind_some ho
  obtain ⟨r, e1, e3⟩ := bind_some e0
  refine wS_of (pss_cons (ps_try_only
    (tb := fun W => fun D σ H => ∀ pn xe, Takes (X.tr pn xe) W → wS (X.tr pn xe) [.Expr ce apos] D σ H)
    (ts := fun a cls d => fun D σ H => ∀ oe pn, Zc cls d oe → (∃ vs, oe.data = .fields vs) → wS (X.suite a ((a, oe) :: pn)) (b₀ :: suite) D σ H)
    hst hfr hc takes0 (fun W pn xe tk _ => ⟨fun pins s σ H D I h => (h pn xe tk).get pins s I⟩) (fun a oe cls d pn hz hf => ⟨fun pins s σ H D I h => (h oe pn hz hf).get pins s I⟩)) pss_w) ?_
  intro pn xe tk
  refine wS_of (pss_one (ps_expr (X := X.tr pn xe) pe_w hsw)) ?_
  refine he _ pn xe tk F0 H0 σ F H A r e1 _ (fun a ea v F' H' gg q => ?_) (fun nm en cv F' H' ec gg => ?_)
  · subst ea
    cases e3
    exact hr _ F0 H0 _ F' H' (Sat.le (A.grow gg) (h0 a)) o e2 D P
  · subst en
    by_cases c1 : nm ∈ nms
    case neg => rw [show catchO nms s0 ms (.ex nm) = none from if_neg c1] at e3; cases e3
    rw [show catchO nms s0 ms (.ex nm) = ms nm from if_pos c1] at e3
    refine ⟨true, hx1 nm c1 cv ec, fun _ a na oe pn hz hf => ?_, fun z => nomatch z⟩
    refine hsu nm c1 cv ec a oe pn hz hf F0 H0 _ F' H' (A.grow gg) o1 e3 _ ?_
    cases o1 with
    | nx s => exact fun σ' F'' H'' A'' => hr s F0 H0 _ F'' H'' A'' o e2 D P
    | rt r => cases e2; exact P
end
end Cw
/- CwExp16: xs.append(ys.pop(i)); an item of one's own list. -/
namespace Cw
open PySem PySem.Spec L2
open PyProof.Rows hiding St
theorem paired_erase {α β : Type} {G : α → β → Prop} : ∀ {xs : List α} {vs : List β} (j : Nat), Paired G xs vs → Paired G (xs.eraseIdx j) (vs.eraseIdx j)
  | _, _, _, .nil => .nil
  | _, _, 0, .cons _ t => t
  | _, _, j + 1, .cons h t => .cons h (paired_erase j t)
def pPopAt {α : Type} (ys : List α) (i : Int) : Option (α × List α) := if -1000000 ≤ i ∧ i ≤ 1000000 then (ixN ys.length i).bind fun k => (ys[k]?).map fun y => (y, ys.eraseIdx k) else none
section
variable {X : Cx} {b : Bool} {Γ : List En} {S R : Type} {Γs : S → List En} {k : Rk R} {rest : List Stmt}
theorem je_ixMu {i : Nat} {x : Str} {p pos : Pos} {ix : Expr} {α : Type} {C : Cd α} {xs : List α} {mi : Option Int} (hN : X.N[i]? = some x) (hv : Vis X.env.scope x) (hg : Γ[i]? = some (.mu (mL C xs))) (hi : JE X b ix Γ (fr cI) mi) (hs : PlainIx ix)
    (hd : (x == ("__debug__" : Str)) = false := by decide) (hcd : (x == ("__classdict__" : Str)) = false := by decide) : JE X b (.Subscript (.Name x p) ix pos) Γ (fr C) (bind2 (some xs) mi atI) := by
  intro F0 H0 σ F H A z ez Q q
  obtain ⟨xs', ii, e1, e2, e3⟩ := bind2_some ez
  cases e1
  refine wE_of (pe_ix ix_list (pe_var hN hv hd hcd) pe_w hs) ?_
  obtain ⟨l, ob, h1, h2, h3, h4, vs, rfl, h6⟩ := A.mu i _ hg
  refine ⟨_, h1, ?_⟩
  refine hi F0 H0 σ F H A ii e2 _ fun w2 F1 H1 g1 r1 => ?_
  cases (show w2 = .int ii from r1)
  obtain ⟨u, y1, y2⟩ := paired_atI h6 e3
  exact ⟨l, vs, ii, u, rfl, rfl, SqL.of (g1.hs _ _ h2), y1, q u F1 H1 g1 (C.mono _ _ _ _ g1.fs y2)⟩
theorem jb_appPop {i j : Nat} {x y : Str} {p py apos bpos cpos dpos pos : Pos} {ix : Expr} {α : Type} {C : Cd α} {xs ys : List α} {mi : Option Int} {f : List α → α × List α → Option (Out S R)} (hN : X.N[i]? = some x) (hv : Vis X.env.scope x) (hg : Γ[i]? = some (.mu (mL C xs))) (hNj : X.N[j]? = some y) (hvj : Vis X.env.scope y) (hgj : Γ[j]? = some (.mu (mL C ys))) (hij : i ≠ j)
    (he : JE X b ix Γ (fr cI) mi) (hr : ∀ us (r : α × List α), JB X b rest ((Γ.set j (.mu (mL C r.2))).set i (.mu (mL C us))) Γs k (f us r))
    (hb1 : attributeBase (.Name x p) "append" X.env (eval (.Name x p) X.env) = eval (.Name x p) X.env := by rfl) (hb2 : attributeBase (.Name y py) "pop" X.env (eval (.Name y py) X.env) = eval (.Name y py) X.env := by rfl)
    (hf1 : ((backTo cpos (starEach ((.Call (.Attribute (.Name y py) "pop" bpos) [ix] [] dpos) :: []) X.env)).all (fun x => !x.1) && (backToKw cpos (keywordEach [] X.env)).all (fun x => x.1.isSome) && decide (((.Call (.Attribute (.Name y py) "pop" bpos) [ix] [] dpos : Expr) :: []).length + ([] : List Keyword).length + (if ([] : List Keyword).isEmpty then 0 else 1) < 30)) = true := by rfl)
    (hf2 : ((backTo dpos (starEach (ix :: []) X.env)).all (fun x => !x.1) && (backToKw dpos (keywordEach [] X.env)).all (fun x => x.1.isSome) && decide ((ix :: []).length + ([] : List Keyword).length + (if ([] : List Keyword).isEmpty then 0 else 1) < 30)) = true := by rfl)
    (hl1 : (apos.endLine == cpos.line) = true := by rfl) (hl2 : (bpos.endLine == dpos.line) = true := by rfl) (hs1 : starEach [.Call (.Attribute (.Name y py) "pop" bpos) [ix] [] dpos] X.env = (false, eval (.Call (.Attribute (.Name y py) "pop" bpos) [ix] [] dpos) X.env) :: starEach [] X.env := by rfl) (hs2 : starEach [ix] X.env = (false, eval ix X.env) :: starEach [] X.env := by rfl)
    (hsw : swapsWith (.Call (.Attribute (.Name x p) "append" apos) [.Call (.Attribute (.Name y py) "pop" bpos) [ix] [] dpos] [] cpos) none pos.line X.env = pure false := by rfl)
    (hd : (x == ("__debug__" : Str)) = false := by decide) (hcd : (x == ("__classdict__" : Str)) = false := by decide) (hdj : (y == ("__debug__" : Str)) = false := by decide) (hcdj : (y == ("__classdict__" : Str)) = false := by decide) :
    JB X b (.Expr (.Call (.Attribute (.Name x p) "append" apos) [.Call (.Attribute (.Name y py) "pop" bpos) [ix] [] dpos] [] cpos) pos :: rest) Γ Γs k ((mi.bind fun i => pPopAt ys i).bind fun r => (pApp xs r.1).bind fun us => f us r) := by
  intro F0 H0 σ F H A o ho D P
  obtain ⟨r, e0, e2⟩ := bind_some ho
  obtain ⟨ii, e1, e3⟩ := bind_some e0
  unfold pPopAt at e3
  by_cases c1 : -1000000 ≤ ii ∧ ii ≤ 1000000
  case neg => rw [if_neg c1] at e3; cases e3
  rw [if_pos c1] at e3
  obtain ⟨kk, e4, e5⟩ := bind_some e3
  cases e6 : ys[kk]? with
  | none => rw [e6] at e5; cases e5
  | some a =>
  rw [e6] at e5
  cases e5
  obtain ⟨us, e7, e8⟩ := bind_some e2
  unfold pApp at e7
  by_cases c : xs.length < 1000000
  case neg => rw [if_neg c] at e7; cases e7
  rw [if_pos c] at e7
  cases e7
  refine wS_of (pss_cons (ps_expr (pe_bm PySem.F.plainAttrs_list PySem.F.slot_list_append PySem.F.type_list_append mt_append (pe_var hN hv hd hcd) (pa_cons (pe_bm PySem.F.plainAttrs_list PySem.F.slot_list_pop PySem.F.type_list_pop mt_popAt (pe_var hNj hvj hdj hcdj) (pa_cons pe_w pa_nil hs2) hb2 hf2 hl2 hs2 rfl) pa_nil hs1) hb1 hf1 hl1 hs1 rfl) hsw) pss_w) ?_
  obtain ⟨l, ob, h1, h2, h3, h4, vs, rfl, h6⟩ := A.mu i _ hg
  obtain ⟨l', ob', h1', h2', h3', h4', vs', rfl, h6'⟩ := A.mu j _ hgj
  have hne : l ≠ l' := fun z => by subst z; exact hij (A.ne i j _ _ l hg hgj h1 h1')
  refine ⟨_, h1, .inl ⟨rfl, vs, SqL.of h2⟩, ?_⟩
  refine ⟨_, h1', .inl ⟨rfl, vs', SqL.of h2'⟩, ?_⟩
  refine he F0 H0 σ F H A ii e1 _ fun w2 F1 H1 g1 r1 => ?_
  cases (show w2 = .int ii from r1)
  have hk := ixN_seq e4
  have hl' : ys.length = vs'.length := paired_len h6'
  have hkl : kk < vs'.length := by rw [← hl']; exact hk.2.1
  obtain ⟨a', ea, ra⟩ := paired_ix h6' (List.getElem?_eq_getElem hkl)
  rw [e6] at ea
  cases ea
  refine ⟨l', vs', ii, kk, vs'[kk], rfl, rfl, g1.hs _ _ h2', by omega, by omega, by rw [← hl']; exact hk.1, List.getElem?_eq_getElem hkl, ?_⟩
  have A1 := A.grow g1
  have A2 : Sat b F0 H0 (Γ.set j (.mu (mL C (ys.eraseIdx kk)))) σ F1 (upd H1 l' (.lst (vs'.eraseIdx kk))) := A1.chg (ψ' := mL C (ys.eraseIdx kk)) hgj h1' (g1.hs _ _ h2') (g1.stays h3' h2') h4' ⟨_, rfl, paired_erase kk (paired_mono h6' fun _ _ q => C.mono _ _ _ _ g1.fs q)⟩
  have h2'' : upd H1 l' (.lst (vs'.eraseIdx kk)) l = some (.lst vs) := by rw [upd_ne hne]; exact g1.hs _ _ h2
  refine ⟨l, vs, vs'[kk], rfl, rfl, h2'', by rw [← paired_len h6]; exact Nat.lt_trans c (by decide), ?_⟩
  refine hr _ (_, _) F0 H0 σ F1 _ (A2.chg (ψ' := mL C (xs ++ [a])) (by rw [List.getElem?_set_ne (Ne.symm hij)]; exact hg) h1 h2'' (g1.stays h3 h2) h4 ⟨_, rfl, paired_app (paired_mono h6 fun _ _ q => C.mono _ _ _ _ g1.fs q) (.cons (C.mono _ _ _ _ g1.fs ra) .nil)⟩) o e8 D P
end
/- a list without items, or a tuple with some -/
def cE {α : Type} (C : Cd α) : Cd (List α) where
  rep := fun xs v F => match xs with
    | [] => (cL C).rep [] v F
    | x :: r => (cT C).rep (x :: r) v F
  mono := fun xs v F F' s r => by
    cases xs with
    | nil => exact (cL C).mono _ _ _ _ s r
    | cons x t => exact (cT C).mono _ _ _ _ s r
def pE0 {α β : Type} (xs : List α) : Option (List β) := match xs with
  | [] => some []
  | _ :: _ => none
def pE1 {α : Type} (xs : List α) : Option (List α) := match xs with
  | [] => none
  | x :: r => some (x :: r)
section
variable {X : Cx} {b : Bool} {Γ : List En}
theorem je_E0 {e : Expr} {α β : Type} {C : Cd α} {D : Cd β} {m : Option (List α)} (h : JE X b e Γ (fr (cL C)) m) : JE X b e Γ (fr (cE D)) (m.bind pE0) := by
  intro F0 H0 σ F H A a ea Q q
  obtain ⟨x, h1, h2⟩ := bind_some ea
  cases x with
  | cons y r => cases h2
  | nil =>
    cases h2
    refine h F0 H0 σ F H A _ h1 Q fun v F' H' g r => q v F' H' g ?_
    obtain ⟨p, vs, rfl, h3, h4⟩ := r
    cases h4
    exact ⟨p, [], rfl, h3, .nil⟩
theorem je_E1 {e : Expr} {α : Type} {C : Cd α} {m : Option (List α)} (h : JE X b e Γ (fr (cT C)) m) : JE X b e Γ (fr (cE C)) (m.bind pE1) := by
  intro F0 H0 σ F H A a ea Q q
  obtain ⟨x, h1, h2⟩ := bind_some ea
  cases x with
  | nil => cases h2
  | cons y r =>
    cases h2
    exact h F0 H0 σ F H A _ h1 Q fun v F' H' g r => q v F' H' g r
theorem je_Eto {e : Expr} {α : Type} {C : Cd α} {m : Option (List α)} (h : JE X b e Γ (fr (cE C)) m) : JE X b e Γ (fr (cT C)) (m.bind pE1) := by
  intro F0 H0 σ F H A a ea Q q
  obtain ⟨x, h1, h2⟩ := bind_some ea
  cases x with
  | nil => cases h2
  | cons y r =>
    cases h2
    exact h F0 H0 σ F H A _ h1 Q fun v F' H' g r => q v F' H' g r
theorem ji_E {tg e : Expr} {α : Type} {C : Cd α} {m : Option (List α)} (h : JE X b e Γ (fr (cE C)) m) : JI X b tg e Γ C m := by
  intro F0 H0 σ F H A xs e1 R q
  cases xs with
  | nil =>
    refine wI_of (pi_list pe_w) ?_
    refine h F0 H0 σ F H A _ e1 _ fun v F' H' g r => ?_
    obtain ⟨p, vs, rfl, h1, h2⟩ := r
    refine ⟨p, rfl, ⟨vs, SqL.of (lst_of g.fx h1)⟩, q _ F' H' vs g ⟨_, _, walk_list (K := X.K) (a := p) (xs := vs), fun H'' fx => SqL.of (lst_of fx h1), fun i H'' x H3 _ _ y => y⟩ h2⟩
  | cons x t =>
    refine wI_of (pi_tup pe_w) ?_
    refine h F0 H0 σ F H A _ e1 _ fun v F' H' g r => ?_
    obtain ⟨p, vs, rfl, h1, h2⟩ := r
    refine ⟨p, rfl, ⟨vs, SqT.of (tup_of g.fx h1)⟩, q _ F' H' vs g ⟨_, _, walk_tup (K := X.K) (a := p) (xs := vs), fun H'' fx => SqT.of (tup_of fx h1), fun i H'' x H3 _ _ y => y⟩ h2⟩
end
end Cw
/- CwExp17: texts: str, int, len, +, one sign in a text, items, slices, split, find, join, partition. -/
namespace Cw
open PySem PySem.Spec L2
open PyProof.Rows hiding St
def pLenS (z : Str) : Option Int := if z.length ≤ 1000000 then some (z.length : Int) else none
theorem c1_lenS {b : Bool} : C1Ok b (fun xs H Q => ∃ z, xs = [V.str z] ∧ z.length ≤ sizeLine ∧ Q (.int z.length) H) cS (fr cI) pLenS := by
  rintro a v F H fx _ r z ez Q q
  cases (show v = .str a from r)
  unfold pLenS at ez
  by_cases c : a.length ≤ 1000000
  · rw [if_pos c] at ez
    cases ez
    exact ⟨a, rfl, Nat.le_trans c (by decide), q _ F H (Grow.refl fx) rfl⟩
  · rw [if_neg c] at ez; cases ez
def pIntS (a : Str) : Option Int := if a.length ≤ 640 then PySem.intText? a else none
theorem c1_intS {b : Bool} : C1Ok b (fun xs H Q => ∃ a n, xs = [V.str a] ∧ PySem.intText? a = some n ∧ a.length ≤ 640 ∧ Q (.int n) H) cS (fr cI) pIntS := by
  rintro a v F H fx _ r z ez Q q
  cases (show v = .str a from r)
  unfold pIntS at ez
  by_cases c : a.length ≤ 640
  · rw [if_pos c] at ez
    exact ⟨a, z, rfl, ez, c, q _ F H (Grow.refl fx) rfl⟩
  · rw [if_neg c] at ez; cases ez
def pStrI (i : Int) : Option Str := if i.natAbs.log2 < 1920 then some (Str.ofString (toString i)) else none
theorem c1_strI {b : Bool} : C1Ok b (fun xs H Q => ∃ i, xs = [V.int i] ∧ i.natAbs.log2 < 1920 ∧ Q (.str (toString i)) H) cI (fr cS) pStrI := by
  rintro a v F H fx _ r z ez Q q
  cases (show v = .int a from r)
  unfold pStrI at ez
  by_cases c : a.natAbs.log2 < 1920
  · rw [if_pos c] at ez
    cases ez
    exact ⟨a, rfl, c, q _ F H (Grow.refl fx) rfl⟩
  · rw [if_neg c] at ez; cases ez
def pAddS (i j : Str) : Option Str := if i.length + j.length ≤ 1000000 then some (i ++ j) else none
theorem r2_addS : R2Ok (fun x y H Q => ∃ i j, x = .str i ∧ y = .str j ∧ i.length + j.length ≤ sizeLine ∧ Q (.str (i ++ j)) H) cS cS (fr cS) pAddS := by
  intro i j vx vy F H fx h1 h2 z ez Q q
  cases h1; cases h2
  unfold pAddS at ez
  by_cases c : i.length + j.length ≤ 1000000
  · rw [if_pos c] at ez
    cases ez
    exact ⟨i, j, rfl, rfl, Nat.le_trans c (by decide), q _ F H (Grow.refl fx) rfl⟩
  · rw [if_neg c] at ez; cases ez
def pInSg (s z : Str) : Option Bool := match s.cps.toList with
  | [c] => some (decide (c ∈ z.cps.toList))
  | _ => none
def pNotInSg (s z : Str) : Option Bool := match s.cps.toList with
  | [c] => some (!decide (c ∈ z.cps.toList))
  | _ => none
theorem sg_eq {s : Str} {c : Nat} (h : s.cps.toList = [c]) : s = ⟨#[c]⟩ := TL.ext_tl h
theorem r2_inSg : R2Ok (fun x y H Q => ∃ (c : Nat) (z : Str), x = .str ⟨#[c]⟩ ∧ y = .str z ∧ Q (.bl (decide (c ∈ z.cps.toList))) H) cS cS (fr cB) pInSg := by
  intro i j vx vy F H fx h1 h2 z ez Q q
  cases h1; cases h2
  unfold pInSg at ez
  split at ez
  · rename_i c e
    cases ez
    exact ⟨c, j, by rw [sg_eq e], rfl, q _ F H (Grow.refl fx) rfl⟩
  · cases ez
theorem r2_niSg : R2Ok (fun x y H Q => ∃ (c : Nat) (z : Str), x = .str ⟨#[c]⟩ ∧ y = .str z ∧ Q (.bl (!decide (c ∈ z.cps.toList))) H) cS cS (fr cB) pNotInSg := by
  intro i j vx vy F H fx h1 h2 z ez Q q
  cases h1; cases h2
  unfold pNotInSg at ez
  split at ez
  · rename_i c e
    cases ez
    exact ⟨c, j, by rw [sg_eq e], rfl, q _ F H (Grow.refl fx) rfl⟩
  · cases ez
def pIxS (z : Str) (i : Int) : Option Str := if z.length ≤ 1000000 then (atI z.cps.toList i).map fun c => ⟨#[c]⟩ else none
theorem r2_ixS : R2Ok rIxS cS cI (fr cS) pIxS := by
  intro z i vx vy F H fx h1 h2 y ez Q q
  cases h1; cases h2
  unfold pIxS at ez
  by_cases c : z.length ≤ 1000000
  · rw [if_pos c] at ez
    cases e : atI z.cps.toList i with
    | none => rw [e] at ez; cases ez
    | some d =>
      rw [e] at ez
      cases ez
      exact ⟨z, i, d, rfl, rfl, Nat.le_trans c (by decide), e, q _ F H (Grow.refl fx) rfl⟩
  · rw [if_neg c] at ez; cases ez
section
variable {X : Cx} {b : Bool} {Γ : List En}
def pCutS (z : Str) (lo hi : Option Int) : Option Str := if z.length ≤ 1000000 then some (cutS z lo hi) else none
theorem je_slS {e : Expr} {lo hi : Option Expr} {p2 pos : Pos} {m : Option Str} {ml mh : Option (Option Int)} (h : JE X b e Γ (fr cS) m) (hl : JP X b lo Γ ml) (hh : JP X b hi Γ mh) :
    JE X b (.Subscript e (.Slice lo hi none p2) pos) Γ (fr cS) (m.bind fun xs => ml.bind fun l => mh.bind fun u => pCutS xs l u) := by
  intro F0 H0 σ F H A z ez Q q
  obtain ⟨xs, e1, ez⟩ := bind_some ez
  obtain ⟨l, e2, ez⟩ := bind_some ez
  obtain ⟨u, e3, ez⟩ := bind_some ez
  unfold pCutS at ez
  by_cases c : xs.length ≤ 1000000
  · rw [if_pos c] at ez
    cases ez
    obtain ⟨tl, pl, rl⟩ := hl
    obtain ⟨th, ph, rh⟩ := hh
    refine wE_of (pe_slice sl_str pe_w pl ph) ?_
    refine h F0 H0 σ F H A xs e1 _ fun v F1 H1 g1 r1 => ?_
    refine rl F0 H0 σ F1 H1 (A.grow g1) l e2 _ fun F2 H2 g2 => ?_
    refine rh F0 H0 σ F2 H2 ((A.grow g1).grow g2) u e3 _ fun F3 H3 g3 => ?_
    exact ⟨xs, r1, Nat.le_trans c (by decide), q _ F3 H3 ((g1.trans g2).trans g3) rfl⟩
  · rw [if_neg c] at ez; cases ez
def pSplit (a s : Str) : Option (List Str) := if (s.length == 0) = false ∧ a.length ≤ 1000000 then some (Txt.split a s) else none
theorem je_split {o e : Expr} {apos pos : Pos} {m n : Option Str} (ho : JE X b o Γ (fr cS) m) (he : JE X b e Γ (fr cS) n)
    (hs : starEach [e] X.env = [(false, eval e X.env)] := by rfl) (hbase : attributeBase o "split" X.env (eval o X.env) = eval o X.env := by rfl) (hline : (apos.endLine == pos.line) = true := by rfl) :
    JE X b (.Call (.Attribute o "split" apos) [e] [] pos) Γ (nw (mL cS)) (bind2 m n pSplit) := by
  intro F0 H0 σ F H A z ez Q q
  obtain ⟨x, y, e1, e2, e3⟩ := bind2_some ez
  unfold pSplit at e3
  by_cases c : (y.length == 0) = false ∧ x.length ≤ 1000000
  · rw [if_pos c] at e3
    cases e3
    refine wE_of (pe_split pe_w pe_w hs hbase hline) ?_
    refine ho F0 H0 σ F H A x e1 _ fun v F1 H1 g1 r1 => ?_
    refine ⟨⟨x, r1⟩, ?_⟩
    refine he F0 H0 σ F1 H1 (A.grow g1) y e2 _ fun w F2 H2 g2 r2 => ?_
    have g := g1.trans g2
    refine ⟨x, y, r1, by rw [show w = .str y from r2], c.1, Nat.le_trans (Nat.add_le_add_right c.2 2) (by decide), fun p hp => ?_⟩
    exact q _ F2 _ (g.trans (grow_new g2.fx hp fun z => z)) ⟨p, _, rfl, g.hs.free hp, upd_same, g2.fx.emp hp, _, rfl, str_paired _⟩
  · rw [if_neg c] at e3; cases e3
theorem je_find {o e : Expr} {apos pos : Pos} {m n : Option Str} (ho : JE X b o Γ (fr cS) m) (he : JE X b e Γ (fr cS) n)
    (hs : starEach [e] X.env = [(false, eval e X.env)] := by rfl) (hbase : attributeBase o "find" X.env (eval o X.env) = eval o X.env := by rfl) (hline : (apos.endLine == pos.line) = true := by rfl) :
    JE X b (.Call (.Attribute o "find" apos) [e] [] pos) Γ (fr cI) (bind2 m n fun x y => some (Txt.find x y)) := by
  intro F0 H0 σ F H A z ez Q q
  obtain ⟨x, y, e1, e2, e3⟩ := bind2_some ez
  cases e3
  refine wE_of (pe_m1 PySem.F.slot_str_find PySem.F.type_str_find mt_find pe_w pe_w hs hbase hline) ?_
  refine ho F0 H0 σ F H A x e1 _ fun v F1 H1 g1 r1 => ?_
  refine ⟨⟨x, r1⟩, ?_⟩
  refine he F0 H0 σ F1 H1 (A.grow g1) y e2 _ fun w F2 H2 g2 r2 => ?_
  exact ⟨x, y, r1, by rw [show w = .str y from r2], q _ F2 H2 (g1.trans g2) rfl⟩
def pJoin (s : Str) (ys : List Str) : Option Str := if (ys.map (·.length)).sum + ys.length * s.length ≤ 1000000 then some (Txt.join s ys) else none
theorem je_join {o e : Expr} {apos pos : Pos} {m : Option Str} {n : Option (List Str)} (ho : JE X b o Γ (fr cS) m) (he : JE X b e Γ (fr (cL cS)) n)
    (hs : starEach [e] X.env = [(false, eval e X.env)] := by rfl) (hbase : attributeBase o "join" X.env (eval o X.env) = eval o X.env := by rfl) (hline : (apos.endLine == pos.line) = true := by rfl) :
    JE X b (.Call (.Attribute o "join" apos) [e] [] pos) Γ (fr cS) (bind2 m n pJoin) := by
  intro F0 H0 σ F H A z ez Q q
  obtain ⟨x, ys, e1, e2, e3⟩ := bind2_some ez
  unfold pJoin at e3
  by_cases c : (ys.map (·.length)).sum + ys.length * x.length ≤ 1000000
  · rw [if_pos c] at e3
    cases e3
    refine wE_of (pe_join pe_w pe_w hs hbase hline) ?_
    refine ho F0 H0 σ F H A x e1 _ fun v F1 H1 g1 r1 => ?_
    refine ⟨⟨x, r1⟩, ?_⟩
    refine he F0 H0 σ F1 H1 (A.grow g1) ys e2 _ fun w F2 H2 g2 r2 => ?_
    obtain ⟨p, vs, rfl, h1, h2⟩ := r2
    have hv := paired_str h2
    subst hv
    exact ⟨x, p, ys, r1, rfl, .inl (SqL.of (lst_of g2.fx h1)), Nat.le_trans c (by decide), q _ F2 H2 (g1.trans g2) rfl⟩
  · rw [if_neg c] at e3; cases e3
def pPart (a s : Str) : Option (Str × Str × Str) := if (s.length == 0) = false ∧ a.length ≤ 1000000 then some (Txt.partition a s) else none
theorem je_part {o e : Expr} {apos pos : Pos} {m n : Option Str} (ho : JE X b o Γ (fr cS) m) (he : JE X b e Γ (fr cS) n)
    (hs : starEach [e] X.env = [(false, eval e X.env)] := by rfl) (hbase : attributeBase o "partition" X.env (eval o X.env) = eval o X.env := by rfl) (hline : (apos.endLine == pos.line) = true := by rfl) :
    JE X b (.Call (.Attribute o "partition" apos) [e] [] pos) Γ (fr (c3 cS cS cS)) (bind2 m n pPart) := by
  intro F0 H0 σ F H A z ez Q q
  obtain ⟨x, y, e1, e2, e3⟩ := bind2_some ez
  unfold pPart at e3
  by_cases c : (y.length == 0) = false ∧ x.length ≤ 1000000
  · rw [if_pos c] at e3
    cases e3
    refine wE_of (pe_partition pe_w pe_w hs hbase hline) ?_
    refine ho F0 H0 σ F H A x e1 _ fun v F1 H1 g1 r1 => ?_
    refine ⟨⟨x, r1⟩, ?_⟩
    refine he F0 H0 σ F1 H1 (A.grow g1) y e2 _ fun w F2 H2 g2 r2 => ?_
    have g := g1.trans g2
    refine ⟨x, y, r1, by rw [show w = .str y from r2], c.1, Nat.le_trans c.2 (by decide), fun p hp => ?_⟩
    exact q _ _ _ (g.trans (Grow.put g2.fx hp fun z => z)) ⟨p, _, _, _, rfl, upd_same, rfl, rfl, rfl⟩
  · rw [if_neg c] at e3; cases e3
end
end Cw
/- CwExp18: an exception that leaves a comprehension. -/
namespace Cw
open PySem PySem.Spec L2
open PyProof.Rows hiding St
theorem funFrames_but {base h h' : Heap} {C : Addr} (k : ∀ b, b ≠ C → h'.get? b = h.get? b) : ∀ {l : List Env}, h.FunFrames base l → C ∉ frs l → h'.FunFrames base l
  | [], _, _ => trivial
  | env :: l, hl, hC => by
    obtain ⟨hk, ⟨L, o, hf, hn, ho, hd⟩, hr⟩ := hl
    refine ⟨hk, ⟨L, o, hf, hn, ?_, hd⟩, funFrames_but k hr fun z => hC ?_⟩
    · rw [k L fun z => hC (by rw [← z]; exact List.mem_filterMap.mpr ⟨env, List.mem_cons_self, hf⟩)]
      exact ho
    · obtain ⟨e, he, q⟩ := List.mem_filterMap.mp z
      exact List.mem_filterMap.mpr ⟨e, List.mem_cons_of_mem _ he, q⟩
/- what is wanted where an exception leaves the block -/
def OutPost (M : Model) (A : Around) (E : Value → Shared → Prop) (ce : Env) (x : Value) (s' : Shared) : Prop :=
  ∃ m, s'.heap.Ns ce.locals m ∧ ∀ h', Heap.SameBut ce.locals s'.heap h' → wpAny M A (passOn "comprehension.variables-let-go" x ce : Sem Value) (fun _ _ => False) E { s' with heap := h' }
theorem blk_out {X : Cx} {W : WX} {pins pins' pn : List (Addr × Obj)} {σ σ5 : St} {H3 H5 : Hp} {s3 s5 s' : Shared} {scope : Scope} {cl : List (Str × Addr)} {fp : List Addr} {xe : Value → Shared → Prop} {E : XK} {e : Value} {R : Value → Shared → Prop}
    (hst : X.stack = X.env :: X.outer) (hfr : X.env.frame = some X.env.locals) (tk : Takes X W) (I3 : Inv X pins σ H3 s3) (hfp : ∀ b ∈ fp, FpOk X pins H3 b)
    (I5 : Inv ((X.blk s3 H3 scope (compEnvC scope cl s3.heap.objs.size X.env) fp).tr pn xe) pins' σ5 H5 s5) (c : L2.CX X.prog X.w X.stack H5 s5 E e s') (hE : ∀ cls d H', E cls d H' → W cls d σ H') :
    wpAny (model X.prog X.w) X.A (noteFrame e (compEnvC scope cl s3.heap.objs.size X.env)) (fun _ s'' => OutPost (model X.prog X.w) X.A X.xe (compEnvC scope cl s3.heap.objs.size X.env) e s'') R s' := by
  obtain ⟨a, B, H', cls, d, rfl, fl, hok, ub, na, os, ag, hE1⟩ := c
  generalize hC : s3.heap.objs.size = C at *
  have hCstk : C ∉ frs X.stack := fun z => by
    rcases List.mem_cons.mp (I3.stkSub C z) with q | q
    · have := I3.lt; rw [← q, hC] at this; exact Nat.lt_irrefl _ this
    · exact I3.nofs (Nat.le_of_eq hC) q
  have hfr' : X.A.frames = some (X.env :: X.outer) := by rw [I3.ok.frames, hst]
  have fl0 := fl
  rw [hst] at fl
  show wpAny _ _ (noteFrame (.ref a) X.env) _ _ _
  refine HandSPX.looks_onZ Zc.steady hfr' hfr fl fun h1 hh1 up1 => ?_
  obtain ⟨m, ⟨o, es, ep, ho, r⟩, _⟩ := id I5.loc
  have ho : s5.heap.get? C = some o := ho
  have hCn : H5 C = none := I5.free
  have hCB : B.get? C = some o := ub.keep C o ho hCn hCstk
  have hCH' : H' C = none := ub.free C o ho hCn
  obtain ⟨st1, na1, ff1, oe, vs, T, oT, ts, he, hz, hd, hv1, hnT, hTe, hT, hdT, h3⟩ := id hh1
  refine ⟨m, ⟨o, es, ep, st1 C o hCB, r⟩, fun h' sb => ?_⟩
  have sb2 : ∀ b, b ≠ C → h'.get? b = h1.get? b := sb.2
  have haC : a ≠ C := fun z => by rw [z] at na1; rw [na1] at hCB; cases hCB
  have hTC : T ≠ C := fun z => by rw [z] at hnT; rw [hnT] at hCB; cases hCB
  obtain ⟨B2, b1, b2⟩ := restrict B fun b => decide (b ≠ C)
  have bB : ∀ b o, B2.get? b = some o → b ≠ C ∧ B.get? b = some o := fun b o e => by
    by_cases q : b = C
    · rw [b2 b (by simp [q])] at e; cases e
    · exact ⟨q, by rw [← b1 b (by simp [q])]; exact e⟩
  have Bb : ∀ b o, b ≠ C → B.get? b = some o → B2.get? b = some o := fun b o q e => by rw [b1 b (by simp [q])]; exact e
  have Bn : ∀ b, B.get? b = none → B2.get? b = none := fun b e => by
    cases q : B2.get? b with
    | none => rfl
    | some o => have := (bB b o q).2; rw [e] at this; cases this
  have hh2 : HandSPX.HeldZ B2 (X.env :: X.outer) a (Zc cls d) X.env.locals h' := by
    refine ⟨fun b o e => ?_, Bn a na1, ?_, oe, vs, T, oT, ts, (sb2 a haC).trans he, hz, hd, hv1, Bn T hnT, hTe, (sb2 T hTC).trans hT, hdT, h3⟩
    · obtain ⟨q, e'⟩ := bB b o e
      rw [sb2 b q]; exact st1 b o e'
    · exact funFrames_none (funFrames_but sb2 ff1 (by rw [← hst]; exact hCstk)) fun b hb => Bn b (ff1.mem hb).1
  show wpAny _ _ (PySem.passOn "comprehension.variables-let-go" (.ref a) X.env) _ _ _
  unfold PySem.passOn
  refine wpAny_bind (wpAny_field ((sb2 a haC).trans he) hd hv1 ?_)
  rw [if_neg (show ¬ ((Value.ref T == Value.none) = true) from by simp)]
  have fin : wpAny (model X.prog X.w) X.A (setFlight (.ref a) X.env.frame) (fun _ s4 => wpAny (model X.prog X.w) X.A (throw (.ref a) : Sem Value) (fun _ _ => False) X.xe s4) X.xe { s' with heap := h' } := by
    rw [hfr]
    refine HandSPX.setFlight_onZ hh2 fun h4 hh4 up4 => wpAny_throw (tk _ _ ?_)
    obtain ⟨G, g1, g2⟩ := restrict h4 fun b => (B2.get? b).isSome || decide (b ∈ frs X.stack)
    have gB : ∀ b o, B2.get? b = some o → G.get? b = some o := fun b o e => by
      rw [g1 b (by simp [e])]
      exact hh4.1 b o e
    have gF : ∀ b, b ∈ frs X.stack → G.get? b = h4.get? b := fun b hb => g1 b (by simp [hb])
    have og : ∀ b o, G.get? b = some o → h4.get? b = some o ∧ ((B2.get? b).isSome = true ∨ b ∈ frs X.stack) := fun b o e => by
      cases q : ((B2.get? b).isSome || decide (b ∈ frs X.stack)) with
      | false => rw [g2 b q] at e; cases e
      | true =>
        rw [g1 b q] at e
        exact ⟨e, by simpa [Bool.or_eq_true] using q⟩
    have ne3 : ∀ b o, s3.heap.get? b = some o → b ≠ C := fun b o e z => by
      have := Heap.lt_size e
      rw [hC, z] at this; exact Nat.lt_irrefl _ this
    have slot : ∀ b o, s3.heap.get? b = some o → b ∈ frs X.stack → b ∉ fp → ∃ sl, G.get? b = some { o with slots := sl } := fun b o e hb hx => by
      obtain ⟨_, o₀, e₀, hnf⟩ := I3.stack.mem hb
      rw [e] at e₀; cases e₀
      obtain ⟨sl, e1⟩ := I5.base.slot b o e (I3.stkFree b hb) hb hx
      obtain ⟨sl2, e2⟩ := ub.slot b _ e1 hb
      obtain ⟨sl3, e3⟩ := up1 b _ e2 hnf
      have e4 : h'.get? b = _ := (sb2 b (ne3 b o e)).trans e3
      obtain ⟨sl5, e5⟩ := up4 b _ e4 hnf
      exact ⟨sl5, by rw [gF b hb]; exact e5⟩
    refine ⟨a, B2, { s3 with heap := G, gens := s'.gens, drawn := s'.drawn, toks := s'.toks }, pins, σ, H', cls, d, rfl, ?_, fun b o e hb => ?_, Heap.UpToSlots.of_keeps fun b o e => (og b o e).1, .inr (.inr (by rw [hst]; exact hh4)), na, os.trans I5.os, ag, hE _ _ _ hE1⟩
    · refine I3.call (ch := fp) ⟨fun b o e n hb hx => ?_, fun b o e n hb hx => slot b o e hb hx, fun b o e n hx => ?_, fun b o e hx => ?_, fun b xs e => ub.tups b xs (I5.base.tups b xs e), fun b o u e => ub.frzs b o u (I5.base.frzs b o u e), fun b ps e => ?_⟩ ?_ ag
        fun b hb => ⟨(hfp b hb).2.2.2.1, (hfp b hb).2.1, (hfp b hb).2.2.2.2.1, (hfp b hb).2.2.2.2.2⟩
      · exact gB b o (Bb b o (ne3 b o e) (ub.keep b o (I5.base.keep b o e n hb hx) (I5.base.free b o e n hx) hb))
      · by_cases hb : b ∈ frs X.stack
        · exact ub.free b _ (I5.base.slot b o e n hb hx).choose_spec (I5.base.free b o e n hx)
        · exact ub.free b _ (I5.base.keep b o e n hb hx) (I5.base.free b o e n hx)
      · by_cases hb : b ∈ frs X.stack
        · obtain ⟨sl, q⟩ := slot b o e hb hx
          exact ⟨_, q⟩
        · obtain ⟨o5, e5⟩ := I5.base.there b o e hx
          obtain ⟨o', q⟩ := ub.there b o5 e5 hb
          exact ⟨o', gB b o' (Bb b o' (ne3 b o e) q)⟩
      · obtain ⟨m1, q1⟩ := I5.base.tbls b ps e
        obtain ⟨m2, q2⟩ := ub.tbls b _ q1
        exact ⟨m1 ++ m2, by rw [q2]; simp⟩
      · exact fun b u q => (hok b u q).stay (fun c v hc e => gB c v (Bb c v (fun z => by
          rcases hc with z' | z'
          · rw [z'] at z; rw [z, hCH'] at q; cases q
          · rw [z, hCH'] at z'; cases z') e)) (fun _ r => r) fun _ _ r => r
    · obtain ⟨e', h⟩ := og b o e
      rcases h with h | h
      · obtain ⟨o', q⟩ := Option.isSome_iff_exists.mp h
        have z := hh4.1 b o' q
        rw [e'] at z; cases z
        exact q
      · exact absurd h hb
  first
    | exact wpAny_bind (wpAny_pure (wpAny_bind fin))
    | exact wpAny_bind fin
/- a comprehension whose step may raise -/
def RP (M : Model) (A : Around) (E : Value → Shared → Prop) (use : Option (Value → Sem Unit)) (Q : Value → Shared → Prop) (acc : Value) (ce : Env) (r : Result) (s' : Shared) : Prop :=
  match r with
  | .ok f => compPost M A E use Q acc ce.locals (.ok f) s'
  | .error x => OutPost M A E ce x s'
theorem comp_out {M : Model} {A : Around} {E : Value → Shared → Prop} {s : Shared} {env : Env} {e : Expr} {scope : Scope} {pos : Pos} {newAcc first : Sem Value} {g : Comprehension} {gs : List Comprehension} {cl : List (Str × Addr)} {use : Option (Value → Sem Unit)} {Q : Value → Shared → Prop}
    (hcl : clausesOf e = g :: gs) (hs : ∀ x, foldedSetIterable g.iter env x = pure x) (hclos : closureFor scope env = pure cl) (hkind : scope.kind = .function) (hnames : ∀ x ∈ scope.names, x.2 = .local → scope.names.lookup x.1 = some .local)
    (h : wpAny M A first (fun x s₁ => wpAny M A (pyIter x) (fun it s₂ => wpAny M A newAcc (fun acc s₃ => wpAny M A (newFunctionEnv scope env.globals cl [] env.qual none .none (some env)) (fun cenv s₄ =>
      codeAny M A (.compStart e 0 it acc { cenv with scope := relabel scope env }) (RP M A E use Q acc { cenv with scope := relabel scope env }) s₄) E s₃) E s₂) E s₁) E s) :
    wpAny M A (comprehension e scope env pos newAcc false first use) Q E s := by
  have keep : ∀ {α : Type} {t : Sem α} {Q1 Q2 : α → Shared → Prop} {s0 : Shared}, wpAny M A t Q1 E s0 → (∀ x s', Q1 x s' → Q2 x s') → wpAny M A t Q2 E s0 := fun h k => wpAny_mono h k fun _ _ z => z
  unfold comprehension
  rw [hclos, hcl]
  refine wpAny_bind (keep h fun x s₁ h₁ => wpAny_bind (wpAny_standAt (wpAny_bind (wpAny_of_eq (hs x) (wpAny_bind (wpAny_holding (keep h₁ fun it s₂ h₂ => ?_)))))))
  refine wpAny_standIf (wpAny_bind (keep h₂ fun acc s₃ h₃ => wpAny_bind (wpAny_pure (wpAny_bind (keep h₃ fun cenv s₄ h₄ => ?_)))))
  dsimp only
  generalize hvs : (scope.names.filter fun x => (x.2 == .local || x.2 == .cell) && x.1 != (".0" : Str)).reverse = vs
  have hv : ∀ x ∈ vs, x.2 = .local → Env.kindOf { cenv with scope := relabel scope env } x.1 = some .local := fun x hx hl => by
    rw [← hvs] at hx
    exact lookup_relabel_local (hnames x (List.mem_filter.mp (List.mem_reverse.mp hx)).1 hl)
  have hv' : ∀ x ∈ vs.drop 1 ++ vs.take 1, x.2 = .local → Env.kindOf { cenv with scope := relabel scope env } x.1 = some .local := fun x hx hl =>
    hv x ((List.mem_append.mp hx).elim List.mem_of_mem_drop List.mem_of_mem_take) hl
  refine wpAny_holding (wpAny_bind (wpAny_attempt (wpAny_holding (wpAny_run (codeAny_mono h₄ fun r s' hr => ?_)))))
  cases r with
  | error x =>
    obtain ⟨m, hn, hr⟩ := (show OutPost M A E { cenv with scope := relabel scope env } x s' from hr)
    exact wpAny_bind (wpAny_holding (wpAny_comp_letGo (cenv := { cenv with scope := relabel scope env }) hkind _ s' m hv hn fun h' m' _ hs' => wpAny_mono (hr h' hs') (fun _ _ f => f.elim) fun _ _ y => y))
  | ok f =>
    cases use with
    | none =>
      obtain ⟨m, hn, hr⟩ := hr
      exact wpAny_bind (wpAny_holding (wpAny_comp_letGo (cenv := { cenv with scope := relabel scope env }) hkind _ s' m hv hn fun h' m' _ hs' => wpAny_pure (hr h' hs')))
    | some u =>
      refine wpAny_bind (wpAny_rule (wpAny_bind (wpAny_holding (keep hr fun _ s'' hr' => ?_))))
      obtain ⟨m, hn, hr'⟩ := hr'
      exact wpAny_bind (wpAny_comp_letGo (cenv := { cenv with scope := relabel scope env }) hkind _ s'' m hv' hn fun h' m' _ hs' => wpAny_pure (hr' h' hs'))
/- what the step may lean on: a call's exception is taken -/
def StepX (X : Cx) (W : WX) : Prop := ∀ σ', PassesAt (L2.CX X.prog X.w) X σ' (WE W σ')
/- the comprehension itself: its step te is told where its exceptions go -/
theorem lcx_core {X : Cx} {W : WX} {pins : List (Addr × Obj)} {s : Shared} {σ : St} {H : Hp} {Q : VK} {elt tg iter : Expr} {ifs : List Expr} {scope : Scope} {own : List (Str × Nat)} {pos pos' : Pos} {wi : TI} {g : TG} {tt : TT} {te : WX → TE} {use : Option (Value → Sem Unit)} {Qf : Value → Shared → Prop}
    (hst : X.stack = X.env :: X.outer) (hfr : X.env.frame = some X.env.locals) (tk : Takes X W) (hc : X.calm = true) (hN : X.N.Nodup) (I : Inv X pins σ H s) (hi : PI X tg iter wi) (ok : BlkOk X.N X.env.scope scope own)
    (hg : ∀ s H C cl fp, PG (X.blk s H scope (compEnvC scope cl C X.env) fp) tg g) (ht : ∀ s H C cl fp, PTs (X.blk s H scope (compEnvC scope cl C X.env) fp) ifs tt)
    (he : ∀ s H C cl fp (W1 : WX) pn xe, StepX ((X.blk s H scope (compEnvC scope cl C X.env) fp).tr pn xe) W1 → PE ((X.blk s H scope (compEnvC scope cl C X.env) fp).tr pn xe) elt (te W1)) (hs : ∀ x, foldedSetIterable iter X.env x = pure x)
    (h : tLc wi g tt (te fun cls d _ H' => W cls d σ H') (own.map (·.2)) σ H Q)
    (hRR : ∀ D C s' m H', Inv X pins σ H' s' → Q (.ref D) H' → s'.heap.Ns C m → FpOk X pins H' C → compPost (model X.prog X.w) X.A X.xe use Qf (.ref D) C (.ok .next) s') :
    wpAny (model X.prog X.w) X.A (comprehension (.ListComp elt [⟨tg, iter, ifs, 0⟩] scope pos) scope X.env pos' (newList []) false (eval iter X.env) use) Qf X.xe s := by
  have hfree : ∀ y ∈ scope.names, y.2 = .free → ∃ c, X.env.cells.lookup y.1 = some c := fun y hy e => (ok.free y hy e).elim (fun k => I.ok.has _ (.inl k)) fun k => I.ok.has _ (.inr k)
  refine comp_out (use := use) rfl hs (closure_ok hfree) ok.kind (fun y hy e => by rw [ok.uniq y hy, e]) (thn (hi.run pins s σ H _ I h) fun xv s1 hx => thn hx fun itv s2 h2 => ?_)
  obtain ⟨it, fp, tn, J, H2, rfl, I2, T, st2, f2, q⟩ := h2
  refine wpAny_newObj_type (newEnv_comp ?_) (by show 0 ≤ sizeLine; decide)
  have hDn : H2 s2.heap.objs.size = none := I2.hok.fresh (Nat.le_refl _)
  obtain ⟨Wt, ⟨m0, w0⟩, turn⟩ := q _ hDn
  generalize hs3 : ({ s2 with heap := s2.heap.push { cls := .type "list", data := .seq ([] : List Value).toArray } } : Shared) = s3
  have h3 : s3.heap = s2.heap.push { cls := .type "list", data := .seq ([] : List Value).toArray } := by rw [← hs3]
  have I3 : Inv X pins σ (upd H2 s2.heap.objs.size (.lst [])) s3 := by
    rw [← hs3]
    exact I2.laid (t' := s2.toks) (fun b o e => Heap.get?_push_of_some _ e) (Nat.le_refl _) ⟨Nat.zero_le _, [], 0, .nil, Heap.get?_push_size _ rfl⟩
  generalize hD : s2.heap.objs.size = D at *
  have f3 : ∀ b ∈ fp, FpOk X pins (upd H2 D (.lst [])) b ∧ b < s3.heap.objs.size := fun b hb => by
    obtain ⟨o, e, _⟩ := T.obj _ _ st2 b hb
    have hlt : b < s2.heap.objs.size := Heap.lt_size e
    have hne : b ≠ D := fun z => by rw [z, ← hD] at hlt; exact Nat.lt_irrefl _ hlt
    exact ⟨⟨by rw [upd_ne hne]; exact (f2 b hb).1, (f2 b hb).2⟩, by rw [h3, Heap.size_push]; exact Nat.lt_succ_of_lt hlt⟩
  have st3 : tn 0 s3.heap := T.keep _ _ _ st2 fun b _ o e => by rw [h3]; exact Heap.get?_push_of_some _ e
  generalize hH3 : upd H2 D (.lst []) = H3 at *
  have I4 := block_start I3 ok hN f3
  generalize hcl : cellsFrom (s3.heap.objs.size + 1) scope.names (cloFrom X.env.cells scope.names []) = cl at I4
  have pg := hg s3 H3 s3.heap.objs.size cl fp
  have pt := ht s3 H3 s3.heap.objs.size cl fp
  have pe := he s3 H3 s3.heap.objs.size cl fp
  have out : ∀ {pn : List (Addr × Obj)} {R : Value → Shared → Prop}, StepX ((X.blk s3 H3 scope (compEnvC scope cl s3.heap.objs.size X.env) fp).tr pn fun x s' => wpAny (model X.prog X.w) X.A (noteFrame x (compEnvC scope cl s3.heap.objs.size X.env)) (fun _ s'' => OutPost (model X.prog X.w) X.A X.xe (compEnvC scope cl s3.heap.objs.size X.env) x s'') R s') (fun cls d _ H' => W cls d σ H') :=
    fun {pn R} σ' pins' H5 s5 e s' I5 c => blk_out hst hfr tk I3 (fun b hb => (f3 b hb).1) I5 c fun cls d H' h => h
  show codeAny _ _ (.compStart (.ListComp elt [⟨tg, iter, ifs, 0⟩] scope pos) 0 (.ref it) (.ref D) (compEnvC scope cl s3.heap.objs.size X.env)) (RP (model X.prog X.w) X.A X.xe use Qf (.ref D) (compEnvC scope cl s3.heap.objs.size X.env)) { s3 with heap := pushCells (s3.heap.push { cls := .type "dict", data := .dict #[] }) scope.names }
  generalize hs4 : ({ s3 with heap := pushCells (s3.heap.push { cls := .type "dict", data := .dict #[] }) scope.names } : Shared) = s4 at I4 ⊢
  have st4 : tn 0 s4.heap := T.keep _ _ _ st3 fun b _ o e => by rw [← hs4]; exact pushCells_keeps _ _ _ _ (Heap.get?_push_of_some _ e)
  generalize hce : compEnvC scope cl s3.heap.objs.size X.env = ce at I4 pg pt pe out ⊢
  have cL : ce.locals = s3.heap.objs.size := by subst hce; rfl
  have stat : ∀ {σ' : St} {H' : Hp} {s' : Shared}, Inv (X.blk s3 H3 scope ce fp) [] σ' H' s' → (∀ b ∈ fp, H' b = none) → ∀ b ∈ fp, FpOk (X.blk s3 H3 scope ce fp) [] H' b := fun {σ' H' s'} I' hn b hb =>
    ⟨hn b hb, (I'.ok.exf b hb).1, I'.ok.exfs b hb, .inl hb, fun x c e => (I'.ok.exf b hb).2 x c e, fun p hp => absurd (show p ∈ ([] : List (Addr × Obj)) ++ [] from hp) (by simp)⟩
  refine codeAny_compStart_list ?loop (T.self X.A 0 _ _ _ st4 ?loop)
  refine compLoop_any (fun n s' => ∃ i H', Inv (X.blk s3 H3 scope ce fp) [] (wipe σ (own.map (·.2))) H' s' ∧ tn i s'.heap ∧ (∀ b ∈ fp, H' b = none) ∧ Wt i n H') ?_ m0 ⟨0, H3, I4, st4, fun b hb => (f3 b hb).1.1, w0⟩
  rintro n s5 ⟨i, H5, I5, st5, n5, w5⟩
  rcases turn i n H5 w5 with ⟨stop, qq⟩ | ⟨go, Nx, hNx, step⟩
  · refine thnF (T.done (X.blk s3 H3 scope ce fp) rfl rfl rfl hc i [] s5 _ H5 (fun _ _ => False) I5 (stat I5 n5) st5 stop) fun r s6 ⟨hr, I6⟩ => ?_
    subst hr
    have nC : H5 s3.heap.objs.size = none := by rw [← cL]; exact I6.free
    obtain ⟨m, hn, _⟩ := I6.loc
    have hn : s6.heap.Ns ce.locals m := hn
    have R := hRR D s3.heap.objs.size s6 m H5 (I3.call' (ch := fp) I6.os I6.base I6.hok I6.bare fun b hb => ⟨(f3 b hb).1.2.2.2.1, (f3 b hb).1.2.1, (f3 b hb).1.2.2.2.2.1, (f3 b hb).1.2.2.2.2.2⟩) qq (by rw [← cL]; exact hn) (I3.fpOk (Nat.le_refl _) nC)
    rw [← cL] at R
    exact R
  · refine thnF (T.item (X.blk s3 H3 scope ce fp) rfl rfl rfl hc i [] s5 _ H5 (fun _ _ => False) I5 (stat I5 n5) st5 go) fun r s6 ⟨u, hr, h6⟩ => ?_
    subst hr
    refine thnF h6 fun _ s7 ⟨x, H7, I7, r7, y7, st7, n7⟩ => ?_
    refine thnF (pg.run _ s7 _ H7 x u _ (I7.pinned (stat I7 n7) (T.obj _ _ st7)) r7 (step x H7 y7)) fun _ s8 ⟨σ8, H8, I8, hw8, q8⟩ => ?_
    refine thnF (pt.run _ s8 σ8 H8 _ I8 q8) fun k s9 ⟨H9, I9, q9⟩ => ?_
    have fin : ∀ {s' : Shared} {H' : Hp}, Inv (X.blk s3 H3 scope ce fp) ([] ++ pinsAt fp s7.heap) σ8 H' s' → Nx H' → ∃ m, m < n ∧ ∃ i H', Inv (X.blk s3 H3 scope ce fp) [] (wipe σ (own.map (·.2))) H' s' ∧ tn i s'.heap ∧ (∀ b ∈ fp, H' b = none) ∧ Wt i m H' := fun {s' H'} I' nx => by
      obtain ⟨m', hm, w'⟩ := hNx H' nx
      have pin' : ∀ b ∈ fp, ∀ o, s7.heap.get? b = some o → s'.heap.get? b = some o ∧ H' b = none := fun b hb o e =>
        let z := I'.pin (b, o) (List.mem_append_right _ (List.mem_append_right _ (mem_pinsAt hb e)))
        ⟨z.1, z.2.1⟩
      refine ⟨m', hm, i + 1, H', (I'.unpinned (pins := [])).weak (by rw [← hw8, wipe_length]) (fun j v e => by rw [← hw8] at e; exact (wipe_some e).1), T.keep _ _ _ st7 fun b hb o e => (pin' b hb o e).1, fun b hb => ?_, w'⟩
      obtain ⟨o, e, _⟩ := T.obj _ _ st7 b hb
      exact (pin' b hb o e).2
    cases k with
    | false =>
      simp only [Bool.false_eq_true, if_false] at q9 ⊢
      exact fin I9 q9
    | true =>
      simp only [if_true] at q9 ⊢
      have okB := I9.ok
      refine thn ((pe _ _ _ (out (R := _))).run [] s9 σ8 H9 _ (I9.toTry _) q9) fun z s10 ⟨yv, H10, I10, r10, acc, hD10, hz10, nx⟩ => ?_
      exact app_ok (X := X.blk s3 H3 scope ce fp) (I10.ofTry okB) hD10 hz10 r10 fun s11 I11 => fin I11 nx
/- ## the layer's rules -/
def lcX {α β : Type} (f : α → Option (Ret β)) : List α → Option (Ret (List β))
  | [] => some (.ok [])
  | x :: xs => (f x).bind fun r => match r with
    | .ex nm => some (.ex nm)
    | .ok y => (lcX f xs).bind fun q => match q with
      | .ex nm => some (.ex nm)
      | .ok ys => some (.ok (y :: ys))
def lcXB {α β : Type} (f : α → Option (Ret β)) (xs : List α) : Option (Ret (List β)) := if xs.length ≤ 10000 then lcX f xs else none
def wEbX (X : Cx) (scope : Scope) (e : Expr) : WX → TE := fun W1 σ H Q => ∀ s H1 C cl fp pn xe, StepX ((X.blk s H1 scope (compEnvC scope cl C X.env) fp).tr pn xe) W1 → wE ((X.blk s H1 scope (compEnvC scope cl C X.env) fp).tr pn xe) e σ H Q
/- what a list's rest may still come to -/
def EndX {β : Type} (acc : List β) (r R : Ret (List β)) : Prop := match r with
  | .ok zs => R = .ok (acc ++ zs)
  | .ex nm => R = .ex nm
section
variable {X : Cx} {W : WX} {b : Bool} {Γ : List En}
theorem jex_callS {x : Str} {p pos : Pos} {e : Expr} {es : List Expr} {ps : List Str} {j n : Nat} {A R : Type} {b' : Bool} {φs : A → List Fact} {m : A → Option (Ret R)} {k : Rk R} {ma : Option A}
    {φs' : A → List Fact} (c : CalX X.prog X.w X.K X.mg X.base j x ps (SpX X.mg b' φs m k)) (sx : StepX X W) (hr : Room n X.A) (hg : Gl X x) (ha : JA X b (e :: es) Γ φs' ma) (hbb : j ≤ n ∧ (b' = true → b = true)) (hφ : φs' = φs := by rfl) (hdb : (x == ("__debug__" : Str)) = false := by decide)
    (he : starEach (e :: es) X.env = (false, eval e X.env) :: starEach es X.env := by rfl) (hpl : (backTo pos (starEach es X.env)).any (·.1) = false := by rfl) : JEX X W b (.Call (.Name x p) (e :: es) [] pos) Γ k (ma.bind m) := by
  obtain ⟨f, fd, Fn, h1, h2, h3⟩ := c
  subst hφ
  intro F0 H0 σ F H A r er Q q1 q2
  obtain ⟨a, e1, e2⟩ := bind_some er
  refine wE_of (pe_callS Fn (hr.mono hbb.1) hg h1 h2 h3 sx pa_w hdb he hpl) ?_
  refine ha F0 H0 σ F H A a e1 _ fun vs F1 H1 g1 r1 => ?_
  exact ⟨a, F1, r, g1.fx, fun z => (A.grow g1).nl (hbb.2 z), r1, e2, fun a ea v F2 H2 g2 r2 => q1 a ea v F2 H2 (g1.trans g2) (k.back _ _ _ _ _ _ g1.hs r2), fun nm en c F2 H2 ec g2 => q2 nm en c F2 H2 ec (g1.trans g2)⟩
theorem lcx_lem {i : Nat} {tg elt iter : Expr} {scope : Scope} {α β : Type} {C : Cd α} {D : Cd β} {m : Option (List α)} {f : α → Option (Ret β)} (hit : JI X b tg iter Γ C m)
    (he : ∀ s H1 C1 cl fp pn xe (W1 : WX) a, StepX ((X.blk s H1 scope (compEnvC scope cl C1 X.env) fp).tr pn xe) W1 → JEX ((X.blk s H1 scope (compEnvC scope cl C1 X.env) fp).tr pn xe) W1 b elt ((Γ.set i .no).set i (.fz (C.at a))) (fr D) (f a)) {F0 H0 : Hp} {σ : St} {F H : Hp} (A : Sat b F0 H0 Γ σ F H) {R : Ret (List β)} (ez : (m.bind fun xs => lcXB f xs) = some R)
    {Q : VK} (q : ∀ ys, R = .ok ys → ∀ v F' H', Grow F H F' H' → (nw (mL D)).p ys v H F' H' → Q v H') (q2 : ∀ nm, R = .ex nm → ∀ c F' H', X.mg nm = some c → Grow F H F' H' → W c none σ H') :
    tLc (wI X tg iter) (gName i) tYes (wEbX X scope elt fun cls d _ H' => W cls d σ H') [i] σ H Q := by
  obtain ⟨xs, e1, e2⟩ := bind_some ez
  unfold lcXB at e2
  by_cases hxl : xs.length ≤ 10000
  case neg => rw [if_neg hxl] at e2; cases e2
  rw [if_pos hxl] at e2
  refine hit F0 H0 σ F H A xs e1 _ fun J F1 H1 vs g it pr => ?_
  intro L hL
  obtain ⟨G, Y, w, hG, hY⟩ := it.ok
  have hl : xs.length = vs.length := paired_len pr
  refine lc_it w (fun n Hn => ∃ F2 acc av, Grow F1 H1 F2 Hn ∧ Hn L = some (.lst av) ∧ F2 L = none ∧ Paired (fun a v => D.rep a v F2) acc av ∧ acc.length = n ∧ ∃ r, lcX f (xs.drop n) = some r ∧ EndX acc r R) ?_ ?_ ?_ ?_
  · refine ⟨F1, [], [], grow_new g.fx hL fun z => z, upd_same, g.fx.emp hL, .nil, rfl, R, e2, ?_⟩
    cases R <;> rfl
  · rintro n Hn _ ⟨F2, acc, av, g2, _⟩
    exact hG Hn fun a u e => g2.fx a u (g2.fs a u e)
  · rintro n v Hn H' hn ⟨F2, acc, av, g2, hD, hF, pa, hal, r, er, ea⟩ y
    obtain ⟨rfl, hv⟩ := hY n Hn v H' (fun a u e => g2.fx a u (g2.fs a u e)) hn y
    obtain ⟨a, ha, ra⟩ := paired_ix pr hv
    have hd : xs.drop n = a :: xs.drop (n + 1) := by
      obtain ⟨q1, q2⟩ := List.getElem?_eq_some_iff.mp ha
      rw [List.drop_eq_getElem_cons q1, q2]
    rw [hd] at er
    obtain ⟨z, k3, k4⟩ := bind_some er
    have AA := ((A.grow (g.trans g2)).wipe (i := i)).put (i := i) (φ := C.at a) (C.mono _ _ _ _ g2.fs ra)
    refine ⟨?_, ?_⟩
    · show ((σ.set i none).set i (some v)).set i none = σ.set i none
      rw [List.set_set, List.set_set]
    unfold tYes
    dsimp only
    rw [if_pos rfl]
    intro s6 H6 C6 cl6 fp6 pn6 xe6 sx
    refine he s6 H6 C6 cl6 fp6 pn6 xe6 _ a sx F0 H0 _ F2 _ AA z k3 _ (fun zz ezz zv F4 H4 g4 r4 => ?_) (fun nm en c F4 H4 ec g4 => ?_)
    · subst ezz
      have f4 : F4 L = none := g4.stays hF hD
      have d4 : H4 L = some (.lst av) := g4.hs _ _ hD
      obtain ⟨r', k5, k6⟩ := bind_some (show ((lcX f (xs.drop (n + 1))).bind fun q => match q with
        | .ex nm => some (.ex nm)
        | .ok ys => some (.ok (zz :: ys))) = some r from k4)
      refine ⟨av, d4, ?_, F4, acc ++ [zz], av ++ [zv], (g2.trans g4).chg hL f4 (fun z => z), upd_same, f4, paired_app (paired_mono pa fun _ _ h => D.mono _ _ _ _ g4.fs h) (.cons r4 .nil), by rw [List.length_append, hal]; rfl, r', k5, ?_⟩
      · rw [← paired_len pa, hal]
        have : n < xs.length := by rw [hl]; exact hn
        exact Nat.lt_of_lt_of_le (Nat.lt_of_lt_of_le this hxl) (by decide)
      · cases r' with
        | ex nm => cases k6; exact ea
        | ok ys =>
          cases k6
          show R = .ok ((acc ++ [zz]) ++ ys)
          rw [List.append_assoc]
          exact ea
    · subst en
      cases k4
      exact q2 nm ea c F4 H4 ec ((g.trans g2).trans g4)
  · rintro Hn ⟨F2, acc, av, g2, hD, hF, pa, hal, r, er, ea⟩
    rw [← hl, List.drop_length] at er
    cases er
    have ea : R = .ok (acc ++ []) := ea
    rw [List.append_nil] at ea
    exact q acc ea _ F2 Hn (g.trans g2) ⟨L, _, rfl, g.hs.free hL, hD, hF, av, rfl, pa⟩
end
section
variable {X : Cx} {W : WX} {b : Bool} {Γ : List En}
theorem pe_stepX {scope : Scope} {elt : Expr} : ∀ s H C cl fp (W1 : WX) pn xe, StepX ((X.blk s H scope (compEnvC scope cl C X.env) fp).tr pn xe) W1 → PE ((X.blk s H scope (compEnvC scope cl C X.env) fp).tr pn xe) elt (wEbX X scope elt W1) :=
  fun s H C cl fp W1 pn xe hp => ⟨fun pins s' σ H' Q I h => pe_w.run pins s' σ H' Q I (h s H C cl fp pn xe hp)⟩
theorem jex_lc {i : Nat} {x : Str} {px : Pos} {elt iter : Expr} {scope : Scope} {pos : Pos} {α β : Type} {C : Cd α} {D : Cd β} {m : Option (List α)} {f : α → Option (Ret β)} (hst : X.stack = X.env :: X.outer) (hfr : X.env.frame = some X.env.locals) (tk : Takes X W) (hc : X.calm = true) (hN : X.N.Nodup)
    (hit : JI X b (.Name x px) iter Γ C m) (ok : BlkOk X.N X.env.scope scope [(x, i)]) (hg : ∀ s H1 C1 cl fp, PG (X.blk s H1 scope (compEnvC scope cl C1 X.env) fp) (.Name x px) (gName i))
    (he : ∀ s H1 C1 cl fp pn xe (W1 : WX) a, StepX ((X.blk s H1 scope (compEnvC scope cl C1 X.env) fp).tr pn xe) W1 → JEX ((X.blk s H1 scope (compEnvC scope cl C1 X.env) fp).tr pn xe) W1 b elt ((Γ.set i .no).set i (.fz (C.at a))) (fr D) (f a)) (hs : ∀ x, foldedSetIterable iter X.env x = pure x := by intro _; rfl) :
    JEX X W b (.ListComp elt [⟨.Name x px, iter, [], 0⟩] scope pos) Γ (nw (mL D)) (m.bind fun xs => lcXB f xs) := by
  intro F0 H0 σ F H A r er Q q1 q2
  refine ⟨fun pins s I => ?_⟩
  rw [eval_ListComp]
  refine lcx_core (own := [(x, i)]) hst hfr tk hc hN I pi_w ok hg (fun _ _ _ _ _ => pts_nil) pe_stepX hs (lcx_lem hit he A er q1 q2) fun D C s' m H' I' qq hn f => ⟨m, hn, fun h'' sb => ?_⟩
  obtain ⟨f0, f1, f2, f3, f4, f5⟩ := f
  exact ⟨.ref D, H', I'.turned (t' := s'.toks) (fun b o hb e => (sb.2 b hb).trans e) f0 f1 f3 f4 f5, rfl, qq⟩
theorem ps_setLcX {j : Nat} {y : Str} {py : Pos} {elt tg iter : Expr} {scope : Scope} {own : List (Str × Nat)} {pos spos : Pos} {wi : TI} {g : TG} {te : WX → TE} (hst : X.stack = X.env :: X.outer) (hfr : X.env.frame = some X.env.locals) (tk : Takes X W) (hc : X.calm = true) (hN : X.N.Nodup) (hy : X.N[j]? = some y) (hyl : X.env.scope.names.lookup y = some .local)
    (hsw : swapsWith (.ListComp elt [⟨tg, iter, [], 0⟩] scope pos) (some (.Name y py)) spos.line X.env = pure true) (hi : PI X tg iter wi) (ok : BlkOk X.N X.env.scope scope own) (hg : ∀ s H C cl fp, PG (X.blk s H scope (compEnvC scope cl C X.env) fp) tg g)
    (he : ∀ s H C cl fp (W1 : WX) pn xe, StepX ((X.blk s H scope (compEnvC scope cl C X.env) fp).tr pn xe) W1 → PE ((X.blk s H scope (compEnvC scope cl C X.env) fp).tr pn xe) elt (te W1)) (hs : ∀ x, foldedSetIterable iter X.env x = pure x := by intro _; rfl) :
    PS X (.Assign [.Name y py] (.ListComp elt [⟨tg, iter, [], 0⟩] scope pos) spos) (fun E σ H => tLc wi g tYes (te fun cls d _ H' => W cls d σ H') (own.map (·.2)) σ H fun v H1 => gName j v σ H1 E.nx) := by
  refine ⟨fun pins s σ H D I h => ?_⟩
  rw [exec_Assign_Name_used _ _ _ _ hsw]
  refine wpAny_bind (wpAny_standAt (wpAny_bind ?_))
  show wpAny _ X.A (do let _ ← comprehension (.ListComp elt [⟨tg, iter, [], 0⟩] scope pos) scope X.env (firstIterPos [⟨tg, iter, [], 0⟩] pos) (newList []) false (eval iter X.env) (some (assign (.Name y py) X.env))) _ _ s
  refine wpAny_bind (thn (lcx_core (Qf := fun _ s' => SP X pins D .next s') hst hfr tk hc hN I hi ok hg (fun _ _ _ _ _ => pts_nil) he hs h fun L C s' m H' I' q hn f => ?_) fun _ s' hq => wpAny_pure (wpAny_pure hq))
  obtain ⟨f0, f1, f2, f3, f4, f5⟩ := f
  show wpAny _ _ (assign (.Name y py) X.env (.ref L)) _ _ _
  refine wpAny_assign_Name (store_ok2 (v := V.ref L) I' hN hy (.inl hyl) rfl (fun s2 I2 ⟨a, sb, ha⟩ => ?_) (.inr hyl))
  refine ⟨m, hn.sameBut sb (ha.elim (fun z => by rw [z]; exact f1) fun z e => f4 y a z e.symm), fun h3 sb3 => ?_⟩
  exact ⟨_, H', I2.turned (t' := s2.toks) (fun b o hb e => (sb3.2 b hb).trans e) f0 f1 f3 f4 f5, q⟩
theorem jbx_setLcX {S R : Type} {Γs : S → List En} {k : Rk R} {rest : List Stmt} {i j : Nat} {x y : Str} {px py : Pos} {elt iter : Expr} {scope : Scope} {pos spos : Pos} {α β : Type} {C : Cd α} {D : Cd β} {m : Option (List α)} {f : α → Option (Ret β)} {g : List β → Option (Out S (Ret R))} (hst : X.stack = X.env :: X.outer) (hfr : X.env.frame = some X.env.locals) (tk : Takes X W) (hc : X.calm = true) (hN : X.N.Nodup)
    (hy : X.N[j]? = some y) (hyl : X.env.scope.names.lookup y = some .local) (hsw : swapsWith (.ListComp elt [⟨.Name x px, iter, [], 0⟩] scope pos) (some (.Name y py)) spos.line X.env = pure true)
    (hit : JI X b (.Name x px) iter Γ C m) (ok : BlkOk X.N X.env.scope scope [(x, i)]) (hg : ∀ s H1 C1 cl fp, PG (X.blk s H1 scope (compEnvC scope cl C1 X.env) fp) (.Name x px) (gName i))
    (he : ∀ s H1 C1 cl fp pn xe (W1 : WX) a, StepX ((X.blk s H1 scope (compEnvC scope cl C1 X.env) fp).tr pn xe) W1 → JEX ((X.blk s H1 scope (compEnvC scope cl C1 X.env) fp).tr pn xe) W1 b elt ((Γ.set i .no).set i (.fz (C.at a))) (fr D) (f a))
    (hr : ∀ a, JBX X W b rest (Γ.set j (.mu (mL D a))) Γs k (g a)) (hs : ∀ x, foldedSetIterable iter X.env x = pure x := by intro _; rfl) :
    JBX X W b (.Assign [.Name y py] (.ListComp elt [⟨.Name x px, iter, [], 0⟩] scope pos) spos :: rest) Γ Γs k ((m.bind fun xs => lcXB f xs).bind (thenX g)) := by
  intro F0 H0 σ F H A o ho E P
  obtain ⟨r, e1, e2⟩ := bind_some ho
  refine wS_of (pss_cons (ps_setLcX (W := W) (own := [(x, i)]) (te := wEbX X scope elt) hst hfr tk hc hN hy hyl hsw pi_w ok hg pe_stepX hs) pss_w) ?_
  show tLc (wI X (.Name x px) iter) (gName i) tYes (wEbX X scope elt fun cls d _ H' => W cls d σ H') [i] σ H (fun v H1 => wS X rest E (σ.set j (some v)) H1)
  refine lcx_lem hit he A e1 (fun ys ey v F' H' g' r' => ?_) (fun nm en c F' H' ec g' => ?_)
  · subst ey
    obtain ⟨l, ob, rfl, q1, q2, q3, q4⟩ := r'
    exact hr ys F0 H0 _ F' H' (A.ownNew g' q1 q2 q3 q4) o e2 E P
  · subst en
    cases e2
    exact P σ F' H' c (A.gr.trans g') ec
theorem jex_fzL {e : Expr} {α : Type} {C : Cd α} {m : Option (Ret (List α))} (h : JEX X W b e Γ (nw (mL C)) m) : JEX X W b e Γ (fr (cL C)) m := by
  intro F0 H0 σ F H A r er Q q1 q2
  refine h F0 H0 σ F H A r er Q (fun a ea v F' H' g p => ?_) q2
  obtain ⟨l, o, rfl, h1, h2, h3, h4⟩ := p
  exact q1 a ea _ _ H' (g.frz h1 h3 h2) (qL l o F' h3 h4)
/- a call of one operand that may raise itself -/
def thenR {α β : Type} (f : α → Option (Ret β)) : Ret α → Option (Ret β)
  | .ok a => f a
  | .ex nm => some (.ex nm)
theorem jex_call1X {x : Str} {p pos : Pos} {e : Expr} {ps : List Str} {j n : Nat} {α R : Type} {b' : Bool} {C : Cd α} {m : α × Unit → Option (Ret R)} {m' : α → Option (Ret R)} {k : Rk R} {ma : Option (Ret α)} {φs : α × Unit → List Fact}
    (c : CalX X.prog X.w X.K X.mg X.base j x ps (SpX X.mg b' φs m k)) (tk : Takes X W) (hr : Room n X.A) (hg : Gl X x) (ha : JEX X W b e Γ (fr C) ma) (hbb : j ≤ n ∧ (b' = true → b = true)) (hdb : (x == ("__debug__" : Str)) = false := by decide)
    (he : starEach [e] X.env = (false, eval e X.env) :: starEach [] X.env := by rfl) (hφ : ∀ a, φs (a, ()) = [C.at a] := by intro _; rfl) (hm : ∀ a, m (a, ()) = m' a := by intro _; rfl) : JEX X W b (.Call (.Name x p) [e] [] pos) Γ k (ma.bind (thenR m')) := by
  obtain ⟨f, fd, Fn, h1, h2, h3⟩ := c
  intro F0 H0 σ F H A r er Q q1 q2
  obtain ⟨ra, e1, e2⟩ := bind_some er
  refine wE_of (pe_callS Fn (hr.mono hbb.1) hg h1 h2 h3 (fun σ => passAt tk σ) (pa_cons pe_w pa_nil he) hdb he rfl) ?_
  refine ha F0 H0 σ F H A ra e1 _ (fun a ea v F1 H1 g1 r1 => ?_) (fun nm en c F' H' ec g => ?_)
  · subst ea
    exact ⟨(a, ()), F1, r, g1.fx, fun z => (A.grow g1).nl (hbb.2 z), by rw [hφ]; exact .cons r1 .nil, (hm a).trans e2, fun a ea v F2 H2 g2 r2 => q1 a ea v F2 H2 (g1.trans g2) (k.back _ _ _ _ _ _ g1.hs r2), fun nm en c F2 H2 ec g2 => q2 nm en c F2 H2 ec (g1.trans g2)⟩
  · subst en
    cases e2
    exact q2 nm rfl c F' H' ec g
end
/- xs == [] -/
def rEq0 (K : PySem.W.Frag) : R2 := fun x y H Q => ∃ a b xs, x = .ref a ∧ y = .ref b ∧ SqL K H a xs ∧ SqL K H b [] ∧ Q (.bl xs.isEmpty) H
theorem op_eq0 {X : Cx} (hu : X.A.units < cLine) : OpR X (compareOp .Eq) (rEq0 X.K) := by
  intro pins s σ H x y v u Q I rx ry h
  obtain ⟨a, b, xs, rfl, rfl, ha, hb, q⟩ := h
  cases (show v = Value.ref a from rx)
  cases (show u = Value.ref b from ry)
  obtain ⟨us, r1, p1, _⟩ := I.list ha
  obtain ⟨ws, r2, p2, _⟩ := I.list hb
  cases r2
  cases xs with
  | nil =>
    cases r1
    refine SeqAt.rcP_lists (e := fun _ => true) p1.isList p2.isList rfl hu (fun j h1 => absurd h1 (Nat.not_lt_zero _)) _ _ ?_
    exact ⟨.bl true, H, I, rfl, q⟩
  | cons z zs =>
    have hl := r1.length
    refine SeqAt.RcAt.lists_lengths p1.isList p2.isList (by rw [List.size_toArray, ← hl]; simp) hu X.prog X.w _ _ ?_
    exact ⟨.bl false, H, I, rfl, q⟩
def pEq0 {α β : Type} (xs : List α) (ys : List β) : Option Bool := if ys.isEmpty then some xs.isEmpty else none
theorem r2_eq0 {K : PySem.W.Frag} {α β : Type} {C : Cd α} {D : Cd β} : R2Ok (rEq0 K) (cL C) (cL D) (fr cB) pEq0 := by
  rintro xs ys vx vy F H fx ⟨p, vs, rfl, h1, h2⟩ ⟨p', vs', rfl, h3, h4⟩ z ez Q q
  cases ys with
  | cons y r => cases ez
  | nil =>
    cases ez
    cases h4
    refine ⟨p, p', vs, rfl, rfl, SqL.of (lst_of fx h1), SqL.of (lst_of fx h3), q _ F H (Grow.refl fx) ?_⟩
    cases h2 <;> rfl
end Cw
/- CwExp19: wishes (tuples within one another), dicts with text keys. -/
namespace Cw
open PySem PySem.Spec L2
open PyProof.Rows hiding St

/- ## wishes: a kind, then a number, a text, a wish, two wishes, or a text and a wish -/
inductive Wish
  | i (k : Str) (c : Int)
  | s (k : Str) (n : Str)
  | u (k : Str) (a : Wish)
  | b (k : Str) (a c : Wish)
  | q (k : Str) (n : Str) (a : Wish)
def wRep : Wish → V → Hp → Prop
  | .i k c, v, F => ∃ p, v = .ref p ∧ F p = some (.tup [.str k, .int c])
  | .s k n, v, F => ∃ p, v = .ref p ∧ F p = some (.tup [.str k, .str n])
  | .u k a, v, F => ∃ p x, v = .ref p ∧ F p = some (.tup [.str k, x]) ∧ wRep a x F
  | .b k a c, v, F => ∃ p x y, v = .ref p ∧ F p = some (.tup [.str k, x, y]) ∧ wRep a x F ∧ wRep c y F
  | .q k n a, v, F => ∃ p x, v = .ref p ∧ F p = some (.tup [.str k, .str n, x]) ∧ wRep a x F
theorem wRep_mono {F F' : Hp} (s : Same F F') : ∀ (a : Wish) (v : V), wRep a v F → wRep a v F'
  | .i k c, v, ⟨p, h1, h2⟩ => ⟨p, h1, s _ _ h2⟩
  | .s k n, v, ⟨p, h1, h2⟩ => ⟨p, h1, s _ _ h2⟩
  | .u k a, v, ⟨p, x, h1, h2, h3⟩ => ⟨p, x, h1, s _ _ h2, wRep_mono s a x h3⟩
  | .b k a c, v, ⟨p, x, y, h1, h2, h3, h4⟩ => ⟨p, x, y, h1, s _ _ h2, wRep_mono s a x h3, wRep_mono s c y h4⟩
  | .q k n a, v, ⟨p, x, h1, h2, h3⟩ => ⟨p, x, h1, s _ _ h2, wRep_mono s a x h3⟩
def cW : Cd Wish := ⟨wRep, fun a v _ _ s h => wRep_mono s a v h⟩
def Wish.kind : Wish → Str
  | .i k _ => k
  | .s k _ => k
  | .u k _ => k
  | .b k _ _ => k
  | .q k _ _ => k
def pW1I : Wish → Option Int
  | .i _ c => some c
  | _ => none
def pW1S : Wish → Option Str
  | .s _ n => some n
  | .q _ n _ => some n
  | _ => none
def pW1W : Wish → Option Wish
  | .u _ a => some a
  | .b _ a _ => some a
  | _ => none
def pW2W : Wish → Option Wish
  | .b _ _ c => some c
  | .q _ _ a => some a
  | _ => none
def pWtl : Wish → Option (List Wish)
  | .u _ a => some [a]
  | .b _ a c => some [a, c]
  | _ => none
theorem fW0 : ∀ x v F, cW.rep x v F → ∃ p vs w, v = .ref p ∧ F p = some (.tup vs) ∧ atI vs 0 = some w ∧ cS.rep x.kind w F
  | .i k c, v, F, ⟨p, h1, h2⟩ => ⟨p, _, _, h1, h2, rfl, rfl⟩
  | .s k n, v, F, ⟨p, h1, h2⟩ => ⟨p, _, _, h1, h2, rfl, rfl⟩
  | .u k a, v, F, ⟨p, x, h1, h2, h3⟩ => ⟨p, _, _, h1, h2, rfl, rfl⟩
  | .b k a c, v, F, ⟨p, x, y, h1, h2, h3, h4⟩ => ⟨p, _, _, h1, h2, rfl, rfl⟩
  | .q k n a, v, F, ⟨p, x, h1, h2, h3⟩ => ⟨p, _, _, h1, h2, rfl, rfl⟩
theorem fW1I : ∀ x v F y, cW.rep x v F → pW1I x = some y → ∃ p vs w, v = .ref p ∧ F p = some (.tup vs) ∧ atI vs 1 = some w ∧ cI.rep y w F
  | .i k c, v, F, y, ⟨p, h1, h2⟩, e => by cases e; exact ⟨p, _, _, h1, h2, rfl, rfl⟩
  | .s _ _, _, _, _, _, e => by cases e
  | .u _ _, _, _, _, _, e => by cases e
  | .b _ _ _, _, _, _, _, e => by cases e
  | .q _ _ _, _, _, _, _, e => by cases e
theorem fW1S : ∀ x v F y, cW.rep x v F → pW1S x = some y → ∃ p vs w, v = .ref p ∧ F p = some (.tup vs) ∧ atI vs 1 = some w ∧ cS.rep y w F
  | .i _ _, _, _, _, _, e => by cases e
  | .s k n, v, F, y, ⟨p, h1, h2⟩, e => by cases e; exact ⟨p, _, _, h1, h2, rfl, rfl⟩
  | .u _ _, _, _, _, _, e => by cases e
  | .b _ _ _, _, _, _, _, e => by cases e
  | .q k n a, v, F, y, ⟨p, x, h1, h2, h3⟩, e => by cases e; exact ⟨p, _, _, h1, h2, rfl, rfl⟩
theorem fW1W : ∀ x v F y, cW.rep x v F → pW1W x = some y → ∃ p vs w, v = .ref p ∧ F p = some (.tup vs) ∧ atI vs 1 = some w ∧ cW.rep y w F
  | .i _ _, _, _, _, _, e => by cases e
  | .s _ _, _, _, _, _, e => by cases e
  | .u k a, v, F, y, ⟨p, x, h1, h2, h3⟩, e => by cases e; exact ⟨p, _, _, h1, h2, rfl, h3⟩
  | .b k a c, v, F, y, ⟨p, x, x2, h1, h2, h3, h4⟩, e => by cases e; exact ⟨p, _, _, h1, h2, rfl, h3⟩
  | .q _ _ _, _, _, _, _, e => by cases e
theorem fW2W : ∀ x v F y, cW.rep x v F → pW2W x = some y → ∃ p vs w, v = .ref p ∧ F p = some (.tup vs) ∧ atI vs 2 = some w ∧ cW.rep y w F
  | .i _ _, _, _, _, _, e => by cases e
  | .s _ _, _, _, _, _, e => by cases e
  | .u _ _, _, _, _, _, e => by cases e
  | .b k a c, v, F, y, ⟨p, x, x2, h1, h2, h3, h4⟩, e => by cases e; exact ⟨p, _, _, h1, h2, rfl, h4⟩
  | .q k n a, v, F, y, ⟨p, x, h1, h2, h3⟩, e => by cases e; exact ⟨p, _, _, h1, h2, rfl, h3⟩
/- from tuples to wishes -/
def mkI (x : Str × Int) : Wish := .i x.1 x.2
def mkS (x : Str × Str) : Wish := .s x.1 x.2
def mkU (x : Str × Wish) : Wish := .u x.1 x.2
def mkB (x : Str × Wish × Wish) : Wish := .b x.1 x.2.1 x.2.2
def mkQ (x : Str × Str × Wish) : Wish := .q x.1 x.2.1 x.2.2
section
variable {X : Cx} {b : Bool} {Γ : List En}
theorem je_fldO {a : Expr} {j : Int} {jj : Nat} {pos p2 : Pos} {α β : Type} {C : Cd α} {D : Cd β} {f : α → Option β} {m : Option α} (hC : ∀ x v F y, C.rep x v F → f x = some y → ∃ p vs w, v = .ref p ∧ F p = some (.tup vs) ∧ atI vs j = some w ∧ D.rep y w F)
    (ha : JE X b a Γ (fr C) m) (hs : PlainIx (.Constant (.int j) jj p2) := by intro _ _; rfl) : JE X b (.Subscript a (.Constant (.int j) jj p2) pos) Γ (fr D) (m.bind f) := by
  intro F0 H0 σ F H A z ez Q q
  obtain ⟨x, e1, e2⟩ := bind_some ez
  refine wE_of (pe_ix ix_tup pe_w pe_int hs) ?_
  refine ha F0 H0 σ F H A x e1 _ fun v F' H' g r => ?_
  obtain ⟨p, vs, w, rfl, h1, h2, h3⟩ := hC x v F' z r e2
  exact ⟨p, vs, j, w, rfl, rfl, SqT.of (tup_of g.fx h1), h2, q w F' H' g h3⟩
theorem je_co {e : Expr} {α β : Type} {C : Cd α} {D : Cd β} {f : α → β} {m : Option α} (hC : ∀ x v F, C.rep x v F → D.rep (f x) v F) (h : JE X b e Γ (fr C) m) : JE X b e Γ (fr D) (m.bind fun x => some (f x)) := by
  intro F0 H0 σ F H A z ez Q q
  obtain ⟨x, e1, e2⟩ := bind_some ez
  cases e2
  exact h F0 H0 σ F H A x e1 Q fun v F' H' g r => q v F' H' g (hC x v F' r)
theorem co_I : ∀ x v F, (c2 cS cI).rep x v F → cW.rep (mkI x) v F := fun x v F ⟨p, u, w, h1, h2, h3, h4⟩ => by
  cases (show u = .str x.1 from h3); cases (show w = .int x.2 from h4)
  exact ⟨p, h1, h2⟩
theorem co_S : ∀ x v F, (c2 cS cS).rep x v F → cW.rep (mkS x) v F := fun x v F ⟨p, u, w, h1, h2, h3, h4⟩ => by
  cases (show u = .str x.1 from h3); cases (show w = .str x.2 from h4)
  exact ⟨p, h1, h2⟩
theorem co_U : ∀ x v F, (c2 cS cW).rep x v F → cW.rep (mkU x) v F := fun x v F ⟨p, u, w, h1, h2, h3, h4⟩ => by
  cases (show u = .str x.1 from h3)
  exact ⟨p, _, h1, h2, h4⟩
theorem co_B : ∀ x v F, (c3 cS cW cW).rep x v F → cW.rep (mkB x) v F := fun x v F ⟨p, u, w, z, h1, h2, h3, h4, h5⟩ => by
  cases (show u = .str x.1 from h3)
  exact ⟨p, _, _, h1, h2, h4, h5⟩
theorem co_Q : ∀ x v F, (c3 cS cS cW).rep x v F → cW.rep (mkQ x) v F := fun x v F ⟨p, u, w, z, h1, h2, h3, h4, h5⟩ => by
  cases (show u = .str x.1 from h3); cases (show w = .str x.2.1 from h4)
  exact ⟨p, _, h1, h2, h5⟩
/- wish[1:] -/
theorem je_slW {e : Expr} {j : Nat} {cp p2 pos : Pos} {m : Option Wish} (h : JE X b e Γ (fr cW) m) : JE X b (.Subscript e (.Slice (some (.Constant (.int 1) j cp)) none none p2) pos) Γ (fr (cT cW)) (m.bind pWtl) := by
  intro F0 H0 σ F H S z ez Q q
  obtain ⟨x, e1, e2⟩ := bind_some ez
  refine wE_of (pe_slice sl_tupA pe_w (po_some pe_int) po_none) ?_
  refine h F0 H0 σ F H S x e1 _ fun v F1 H1 g1 r1 => ?_
  refine ⟨1, rfl, ?_⟩
  cases x with
  | i k c => cases e2
  | s k n => cases e2
  | q k n a => cases e2
  | u k a =>
    cases e2
    obtain ⟨p, y, rfl, h1, h2⟩ := r1
    refine ⟨p, [.str k, y], rfl, SqT.of (tup_of g1.fx h1), fun hw => ?_, fun _ l' hl' => ?_⟩
    · exact absurd (show (1 : Nat) = 0 from hw.1) (by decide)
    · exact q _ (upd F1 l' (.tup [y])) _ (g1.trans (Grow.put g1.fx hl' fun z => z)) ⟨l', [y], rfl, upd_same, .cons (cW.mono _ _ _ _ (sameNew (g1.fx.emp hl')) h2) .nil⟩
  | b k a c =>
    cases e2
    obtain ⟨p, y, y2, rfl, h1, h2, h3⟩ := r1
    refine ⟨p, [.str k, y, y2], rfl, SqT.of (tup_of g1.fx h1), fun hw => ?_, fun _ l' hl' => ?_⟩
    · exact absurd (show (1 : Nat) = 0 from hw.1) (by decide)
    · exact q _ (upd F1 l' (.tup [y, y2])) _ (g1.trans (Grow.put g1.fx hl' fun z => z)) ⟨l', [y, y2], rfl, upd_same, .cons (cW.mono _ _ _ _ (sameNew (g1.fx.emp hl')) h2) (.cons (cW.mono _ _ _ _ (sameNew (g1.fx.emp hl')) h3) .nil)⟩
end

/- ## dicts with text keys -/
def rowS {α : Type} (C : Cd α) (F : Hp) (p : Str × α) (q : Key × V) : Prop := q.1 = Sum.inr p.1 ∧ C.rep p.2 q.2 F
def cDS {α : Type} (C : Cd α) : Cd (List (Str × α)) where
  rep := fun kvs v F => ∃ d ks, v = .ref d ∧ F d = some (.dK ks) ∧ Paired (rowS C F) kvs ks
  mono := fun _ _ _ _ s ⟨d, ks, h1, h2, h3⟩ => ⟨d, ks, h1, s _ _ h2, paired_mono h3 fun _ _ q => ⟨q.1, C.mono _ _ _ _ s q.2⟩⟩
def mDS {α : Type} (C : Cd α) (kvs : List (Str × α)) : MFact where
  p := fun o F => ∃ ks, o = .dK ks ∧ Paired (rowS C F) kvs ks
  mono := fun _ _ _ s ⟨vs, h1, h3⟩ => ⟨vs, h1, paired_mono h3 fun _ _ q => ⟨q.1, C.mono _ _ _ _ s q.2⟩⟩
  nofrz := fun o F ⟨vs, h, _⟩ z => by subst h; exact z
theorem qDS {α : Type} {C : Cd α} {xs : List (Str × α)} : ∀ l o F, F l = none → (mDS C xs).p o F → ((cDS C).at xs).p (.ref l) (upd F l o) := fun l o F n ⟨vs, h1, h2⟩ => by
  subst h1
  exact ⟨l, vs, rfl, upd_same, paired_mono h2 fun _ _ q => ⟨q.1, C.mono _ _ _ _ (sameNew n) q.2⟩⟩
def lookS {α : Type} (kvs : List (Str × α)) (k : Str) : Option α := (kvs.find? fun p => decide (p.1 = k)).map (·.2)
theorem paired_lookS {α : Type} {C : Cd α} {F : Hp} : ∀ {kvs : List (Str × α)} {ks : List (Key × V)} (k : Str), Paired (rowS C F) kvs ks →
    (∀ a, lookS kvs k = some a → ∃ v, valV ks (Sum.inr k) = some v ∧ C.rep a v F) ∧ (lookS kvs k = none → valV ks (Sum.inr k) = none)
  | _, _, k, .nil => ⟨fun _ h => (nomatch h), fun _ => rfl⟩
  | (k', a') :: kvs, (key, v') :: ks, k, .cons ⟨h1, h2⟩ t => by
    have h1 : key = Sum.inr k' := h1
    subst h1
    by_cases e : k' = k
    · subst e
      refine ⟨fun a h => ⟨v', by simp [valV], ?_⟩, fun h => ?_⟩
      · have h : some a' = some a := by simpa [lookS] using h
        cases h
        exact h2
      · simp [lookS] at h
    · have ih := paired_lookS k t
      have e1 : lookS ((k', a') :: kvs) k = lookS kvs k := by simp [lookS, e]
      have e2 : valV ((Sum.inr k', v') :: ks) (Sum.inr k : Key) = valV ks (Sum.inr k) := by
        have e' : ¬ (Sum.inr k' : Key) = Sum.inr k := fun z => e (Sum.inr.inj z)
        rw [valV_neg e']
      rw [e1, e2]
      exact ih
theorem dgetS_of {d : Addr} {ks : List (Key × V)} {F H : Hp} (fx : FEx F H) (h : F d = some (.dK ks)) (k : Str) : DGet H d (.str k) (valV ks (Sum.inr k)) := .inl ⟨ks, Sum.inr k, fx.rd h, rfl, rfl⟩
section
variable {X : Cx} {b : Bool} {Γ : List En}
theorem je_fzDS {e : Expr} {α : Type} {C : Cd α} {m : Option (List (Str × α))} (h : JE X b e Γ (nw (mDS C)) m) : JE X b e Γ (fr (cDS C)) m := je_fz h fun _ => qDS
theorem je_dgetS {a c : Expr} {pos : Pos} {α : Type} {C : Cd α} {m1 : Option (List (Str × α))} {m2 : Option Str} (hu : X.A.units + 1 < cLine) (ha : JE X b a Γ (fr (cDS C)) m1) (hc : JE X b c Γ (fr cS) m2) (hs : NoSl c := by intro _ _; rfl) :
    JE X b (.Subscript a c pos) Γ (fr C) (bind2 m1 m2 lookS) := by
  intro F0 H0 σ F H A z ez Q q
  obtain ⟨kvs, k, e1, e2, e3⟩ := bind2_some ez
  refine wE_of (pe_dget hu pe_w pe_w hs) ?_
  refine ha F0 H0 σ F H A kvs e1 _ fun v F1 H1 g1 r1 => ?_
  refine hc F0 H0 σ F1 H1 (A.grow g1) k e2 _ fun w F2 H2 g2 r2 => ?_
  obtain ⟨d, ks, rfl, h1, h2⟩ := (cDS C).mono _ _ _ _ g2.fs r1
  cases (show w = .str k from r2)
  obtain ⟨u, h3, h4⟩ := (paired_lookS k h2).1 z e3
  exact ⟨d, u, rfl, by rw [← h3]; exact dgetS_of g2.fx h1 k, q u F2 H2 (g1.trans g2) h4⟩
theorem c1_dictDS {α : Type} {C : Cd α} : C1Ok b (fun xs H Q => ∃ a kvs, xs = [V.ref a] ∧ Rd H a (.dK kvs) ∧ ∀ p, H p = none → Q (.ref p) (upd H p (.dK kvs))) (cDS C) (nw (mDS C)) pId := by
  rintro kvs v F H fx _ ⟨p, ks, rfl, h1, h2⟩ z ez Q q
  cases ez
  exact ⟨p, ks, rfl, fx.rd h1, fun l hl => q _ F _ (grow_new fx hl fun z => z) ⟨l, _, rfl, hl, upd_same, fx.emp hl, ks, rfl, h2⟩⟩
theorem je_dnewS {pos : Pos} {α : Type} {C : Cd α} : JE X b (.Dict [] [] pos) Γ (nw (mDS C)) (some []) := by
  intro F0 H0 σ F H A z ez Q q
  cases ez
  refine wE_of pe_dnewK fun p hp => ?_
  exact q _ F _ (grow_new A.gr.fx hp fun z => z) ⟨p, _, rfl, hp, upd_same, A.gr.fx.emp hp, [], rfl, .nil⟩
def putS {α : Type} (kvs : List (Str × α)) (k : Str) (v : α) : List (Str × α) := if (kvs.any fun p => decide (p.1 = k)) = true then kvs.map (fun p => if p.1 = k then (p.1, v) else p) else kvs ++ [(k, v)]
def pPutS {α : Type} (kvs : List (Str × α)) (k : Str) (v : α) : Option (List (Str × α)) := if kvs.length < 1000000 then some (putS kvs k v) else none
theorem paired_putS {α : Type} {C : Cd α} {F : Hp} {kvs : List (Str × α)} {ks : List (Key × V)} (h : Paired (rowS C F) kvs ks) (k : Str) {a : α} {v : V} (r : C.rep a v F) :
    Paired (rowS C F) (putS kvs k a) (putK ks (Sum.inr k) v) := by
  have hany : (ks.any fun kv => decide (kv.1 = (Sum.inr k : Key))) = (kvs.any fun p => decide (p.1 = k)) := by
    induction h with
    | nil => rfl
    | @cons p q _ _ h1 _ ih =>
      rw [List.any_cons, List.any_cons, ih, h1.1]
      congr 1
      by_cases e : p.1 = k
      · simp [e]
      · have e' : ¬ (Sum.inr p.1 : Key) = Sum.inr k := fun z => e (Sum.inr.inj z)
        rw [decide_eq_false e, decide_eq_false e']
  unfold putS putK
  rw [hany]
  split
  · rename_i hh
    clear hany hh
    induction h with
    | nil => exact .nil
    | @cons p q _ _ h1 t ih =>
      rw [List.map_cons, List.map_cons]
      refine .cons ?_ ih
      by_cases e : p.1 = k
      · have e' : q.1 = (Sum.inr k : Key) := by rw [h1.1, e]
        rw [if_pos e, if_pos e']
        exact ⟨h1.1, r⟩
      · have e' : ¬ q.1 = (Sum.inr k : Key) := fun z => e (Sum.inr.inj (h1.1.symm.trans z))
        rw [if_neg e, if_neg e']
        exact h1
  · exact paired_app h (.cons ⟨rfl, r⟩ .nil)
theorem jb_putS {S R : Type} {Γs : S → List En} {k : Rk R} {rest : List Stmt} {i : Nat} {x : Str} {p pos pos' : Pos} {e kx : Expr} {α : Type} {C : Cd α} {kvs : List (Str × α)} {m : Option α} {mk : Option Str} {f : List (Str × α) → Option (Out S R)} (hu : X.A.units + 1 < cLine) (hN : X.N[i]? = some x) (hv : Vis X.env.scope x) (hg : Γ[i]? = some (.mu (mDS C kvs)))
    (he : JE X b e Γ (fr C) m) (hk : JE X b kx Γ (fr cS) mk) (hr : ∀ ys, JB X b rest (Γ.set i (.mu (mDS C ys))) Γs k (f ys)) (hs : swapsWith e (some (.Subscript (.Name x p) kx pos')) pos.line X.env = pure false := by rfl)
    (hd : (x == ("__debug__" : Str)) = false := by decide) (hcd : (x == ("__classdict__" : Str)) = false := by decide) :
    JB X b (.Assign [.Subscript (.Name x p) kx pos'] e pos :: rest) Γ Γs k ((m.bind fun a => mk.bind fun k => pPutS kvs k a).bind f) := by
  intro F0 H0 σ F H A o ho D P
  obtain ⟨ys, e0, e2⟩ := bind_some ho
  obtain ⟨a, e1, e3⟩ := bind_some e0
  obtain ⟨kk, e4, e5⟩ := bind_some e3
  unfold pPutS at e5
  by_cases c : kvs.length < 1000000
  case neg => rw [if_neg c] at e5; cases e5
  rw [if_pos c] at e5
  cases e5
  refine wS_of (pss_cons (ps_dput hu (pe_var hN hv hd hcd) pe_w pe_w hs) pss_w) ?_
  obtain ⟨l, ob, h1, h2, h3, h4, vs, rfl, h6⟩ := A.mu i _ hg
  refine he F0 H0 σ F H A a e1 _ fun v F1 H1 g1 r1 => ?_
  refine ⟨_, h1, ?_⟩
  refine hk F0 H0 σ F1 H1 (A.grow g1) kk e4 _ fun w F2 H2 g2 r2 => ?_
  cases (show w = .str kk from r2)
  have g := g1.trans g2
  have h2' : H2 l = some (.dK vs) := g.hs _ _ h2
  refine ⟨l, _, rfl, DPut.k (k := Sum.inr kk) h2' (by rw [← Paired.length h6]; exact Nat.lt_trans c (by decide)), ?_⟩
  exact hr _ F0 H0 σ F2 _ ((A.grow g).chg hg h1 h2' (g.stays h3 h2) h4 ⟨_, rfl, paired_putS (paired_mono h6 fun _ _ q => ⟨q.1, C.mono _ _ _ _ g.fs q.2⟩) kk (C.mono _ _ _ _ g2.fs r1)⟩) o e2 D P
end
end Cw
/- CwExp20: an object of one's own is lent to a def that changes it. It stands in slot i at the address l; M s tells what is in it. -/
namespace Cw
open PySem PySem.Spec L2
open PyProof.Rows hiding St

def qRet {α T : Type} (m : Option α) (s : T) : Option (α × T) := m.bind fun a => some (a, s)
def qb {α T R : Type} (m : Option (α × T)) (f : α → T → Option (R × T)) : Option (R × T) := m.bind fun a => f a.1 a.2
def qCons {α A T : Type} (m1 : Option (α × T)) (m2 : T → Option (A × T)) : Option ((α × A) × T) := m1.bind fun a => (m2 a.2).bind fun x => some ((a.1, x.1), x.2)
def qCall {A T R : Type} (ma : Option (A × T)) (m : A → Option R) : Option (R × T) := ma.bind fun a => (m a.1).bind fun r => some (r, a.2)
def qCallM {A T R : Type} (ma : Option (A × T)) (m : A → T → Option (R × T)) : Option (R × T) := ma.bind fun a => m a.1 a.2
def qMap {α β T : Type} (f : α → β) (m : Option (α × T)) : Option (β × T) := m.bind fun x => some (f x.1, x.2)
def qTup2 {α β T : Type} (m1 : Option (α × T)) (m2 : T → Option (β × T)) : Option ((α × β) × T) := m1.bind fun a => (m2 a.2).bind fun c => some ((a.1, c.1), c.2)
def qTup3 {α β γ T : Type} (m1 : Option (α × T)) (m2 : T → Option (β × T)) (m3 : T → Option (γ × T)) : Option ((α × β × γ) × T) := m1.bind fun a => (m2 a.2).bind fun c => (m3 c.2).bind fun d => some ((a.1, c.1, d.1), d.2)
def qDrop {A T R : Type} (ma : Option (A × T)) (m : A → T → Option (R × T)) : Option R := ma.bind fun a => (m a.1 a.2).bind fun r => some r.1
def pConsA {α A T : Type} (a : α) (x : A × T) : Option ((α × A) × T) := some ((a, x.1), x.2)
def pConsL {A T : Type} (t : T) (x : A) : Option ((Unit × A) × T) := some (((), x), t)
def cAd (l : Addr) : Cd Unit := ⟨fun _ v _ => v = .ref l, fun _ _ _ _ _ h => h⟩
def rmA (H : Hp) (l : Addr) : Hp := fun a => if a = l then none else H a
theorem rmA_same {H : Hp} {l : Addr} : rmA H l l = none := if_pos rfl
theorem rmA_ne {H : Hp} {l a : Addr} (h : a ≠ l) : rmA H l a = H a := if_neg h
theorem rmA_sub {H : Hp} {l : Addr} : Same (rmA H l) H := fun a u e => by
  by_cases q : a = l
  · subst q; rw [rmA_same] at e; cases e
  · rwa [rmA_ne q] at e
def mAny : MFact := ⟨fun o _ => ¬ isF o, fun _ _ _ _ h => h, fun _ _ h => h⟩
section
variable {b : Bool} {F0 H0 F H F' H' : Hp} {Γ : List En} {σ : St}
theorem set_self {i : Nat} {l : Addr} (hs : σ[i]? = some (some (.ref l))) : σ.set i (some (.ref l)) = σ := by
  obtain ⟨h1, h2⟩ := List.getElem?_eq_some_iff.mp hs
  rw [← h2, List.set_getElem_self]
/- the def's own view: what is lent is its own -/
theorem Sat.lend {i : Nat} {l : Addr} {o : HO} {ψ : MFact} (A : Sat b F H Γ σ F H) (hm : ∀ (j : Nat) (ψ : MFact), Γ[j]? ≠ some (.mu ψ)) (hw : ∀ (j : Nat) (χ : OFact), Γ[j]? ≠ some (.ow χ)) (hs : σ[i]? = some (some (.ref l))) (h1 : H l = some o) (h2 : F l = none) (h : ψ.p o F) :
    Sat b F (rmA H l) (Γ.set i (.mu ψ)) σ F H := by
  have A1 : Sat b F (rmA H l) Γ σ F H := {
    gr := ⟨Same.refl _, A.gr.fx, rmA_sub, fun _ h => .inl h, fun a ob u d e => by
      by_cases q : a = l
      · subst q
        rw [h1] at e
        cases e
        exact absurd trivial (ψ.nofrz _ _ h)
      · rw [rmA_ne q]; exact e⟩
    nl := A.nl
    len := A.len
    fz := A.fz
    mu := fun j ψ e => absurd e (hm j ψ)
    ne := fun j _ ψ _ _ e => absurd e (hm j ψ)
    ow := fun j χ e => absurd e (hw j χ)
    ow1 := fun j _ χ _ e => absurd e (hw j χ) }
  have := A1.own (i := i) h1 h2 rmA_same h (fun j ψ _ e => absurd e (hm j ψ)) (fun j χ e => absurd e (hw j χ))
  rwa [set_self hs] at this
/- the lender's view, after the call -/
theorem Sat.lent {i : Nat} {l : Addr} {o2 : HO} {ψ ψ2 : MFact} (A : Sat b F0 H0 (Γ.set i (.mu ψ)) σ F H) (hi : i < Γ.length) (hs : σ[i]? = some (some (.ref l))) (g : Grow F (rmA H l) F' H') (h1 : H' l = some o2) (h2 : F' l = none) (h : ψ2.p o2 F') :
    Sat b F0 H0 (Γ.set i (.mu ψ2)) σ F' H' := by
  obtain ⟨l', o, q1, q2, q3, q4, q5⟩ := A.mu i ψ (List.getElem?_set_self hi)
  rw [hs] at q1
  have e5 : l = l' := by injection q1 with z; injection z with z; injection z
  subst e5
  have nf := ψ2.nofrz _ _ h
  have A1 := A.chg (ψ' := mAny) (o' := o2) (List.getElem?_set_self hi) hs q2 q3 q4 nf
  have g1 : Grow F (upd H l o2) F' H' := {
    fs := g.fs
    fx := g.fx
    hs := fun a u e => by
      by_cases q : a = l
      · subst q; rw [upd_same] at e; rw [h1]; exact e
      · rw [upd_ne q] at e
        exact g.hs a u (by rw [rmA_ne q]; exact e)
    nw := fun a e => by
      by_cases q : a = l
      · subst q; exact absurd h2 e
      · rw [upd_ne q]
        have := g.nw a e
        rwa [rmA_ne q] at this
    nf := fun a ob u d e => by
      by_cases q : a = l
      · subst q
        rw [h1] at e; cases e
        exact absurd trivial nf
      · rw [upd_ne q]
        have := g.nf a ob u d e
        rwa [rmA_ne q] at this }
  have A2 := A1.grow g1
  have hi2 : i < ((Γ.set i (.mu ψ)).set i (.mu mAny)).length := by rw [List.length_set, List.length_set]; exact hi
  have hi3 : i < (Γ.set i (.mu ψ)).length := by rw [List.length_set]; exact hi
  have A3 := A2.chg (ψ' := ψ2) (o' := o2) (List.getElem?_set_self hi3) hs h1 h2 q4 h
  have eu : upd H' l o2 = H' := by
    funext a
    by_cases q : a = l
    · subst q; rw [upd_same, h1]
    · rw [upd_ne q]
  rw [eu, List.set_set, List.set_set] at A3
  exact A3
theorem Grow.newGone {F1 H1 F2 H2 : Hp} {l : Addr} (g : Grow F H F1 H1) (hl : H l = none) (h2 : Grow F1 (rmA H1 l) F2 H2) : Grow F H F2 H2 where
  fs := g.fs.trans h2.fs
  fx := h2.fx
  hs := fun a u e => by
    have q : a ≠ l := fun z => by rw [z, hl] at e; cases e
    exact h2.hs a u (by rw [rmA_ne q]; exact g.hs a u e)
  nw := fun a e => by
    rcases h2.nw a e with z | z
    · exact g.nw a z
    · by_cases q : a = l
      · subst q; exact .inr hl
      · rw [rmA_ne q] at z
        exact .inr (g.hs.free z)
  nf := fun a ob u d e => by
    have h := h2.nf a ob u d e
    by_cases q : a = l
    · subst q; rw [rmA_same] at h; cases h
    · rw [rmA_ne q] at h; exact g.nf a ob u d h
end

theorem Grow.rm {F H F' H' : Hp} {l : Addr} (g : Grow F H F' H') (nf : ∀ o u, H l ≠ some (.frz o u)) : Grow F (rmA H l) F' H' where
  fs := g.fs
  fx := g.fx
  hs := rmA_sub.trans g.hs
  nw := fun a e => by
    rcases g.nw a e with z | z
    · exact .inl z
    · refine .inr ?_
      by_cases q : a = l
      · subst q; exact rmA_same
      · rw [rmA_ne q]; exact z
  nf := fun a ob u d e => by
    have h := g.nf a ob u d e
    by_cases q : a = l
    · subst q; exact absurd h (nf _ _)
    · rw [rmA_ne q]; exact h
theorem Grow.rmTrans {F H F1 H1 F2 H2 : Hp} {l : Addr} (g : Grow F (rmA H l) F1 H1) (h : Grow F1 (rmA H1 l) F2 H2) : Grow F (rmA H l) F2 H2 where
  fs := g.fs.trans h.fs
  fx := h.fx
  hs := fun a u e => by
    have q : a ≠ l := fun z => by rw [z, rmA_same] at e; cases e
    exact h.hs a u (by rw [rmA_ne q]; exact g.hs a u e)
  nw := fun a e => by
    rcases h.nw a e with z | z
    · exact g.nw a z
    · by_cases q : a = l
      · subst q; exact .inr rmA_same
      · rw [rmA_ne q] at z
        exact .inr (g.hs.free z)
  nf := fun a ob u d e => by
    have h1 := h.nf a ob u d e
    by_cases q : a = l
    · subst q; rw [rmA_same] at h1; cases h1
    · rw [rmA_ne q] at h1
      exact g.nf a ob u d h1
theorem Sat.lentNf {b : Bool} {F0 H0 F H : Hp} {Γ : List En} {σ : St} {i : Nat} {l : Addr} {ψ : MFact} (A : Sat b F0 H0 (Γ.set i (.mu ψ)) σ F H) (hs : σ[i]? = some (some (.ref l))) : ∀ o u, H l ≠ some (.frz o u) := fun o u e => by
  have hi : i < Γ.length := by
    have := (List.getElem?_eq_some_iff.mp hs).1
    rwa [A.len, List.length_set] at this
  obtain ⟨l', o', q1, q2, q3, q4, q5⟩ := A.mu i ψ (List.getElem?_set_self hi)
  rw [hs] at q1
  have e5 : l = l' := by injection q1 with z; injection z with z; injection z
  subst e5
  rw [q2] at e
  cases e
  exact ψ.nofrz _ _ q5 trivial
/- ## contract of a def that is lent an object -/
def SpM {A R T : Type} (b : Bool) (M : T → MFact) (φs : Addr → A → List Fact) (m : A → T → Option (R × T)) (C : Cd R) : Sp := fun vs H Q _ =>
  ∃ l x s F r t o, FEx F H ∧ (b = true → NoLk H) ∧ Args (φs l x) vs F ∧ H l = some o ∧ F l = none ∧ (M s).p o F ∧ m x s = some (r, t) ∧
    ∀ v F' H' o', Grow F (rmA H l) F' H' → H' l = some o' → F' l = none → (M t).p o' F' → C.rep r v F' → Q v H'
/- expressions, arguments, blocks -/
def JQ (X : Cx) (b : Bool) (e : Expr) (Γ : List En) (i : Nat) (l : Addr) {T α : Type} (M : T → MFact) (s : T) (C : Cd α) (m : Option (α × T)) : Prop :=
  ∀ F0 H0 σ F H, Sat b F0 H0 (Γ.set i (.mu (M s))) σ F H → σ[i]? = some (some (.ref l)) → ∀ r t, m = some (r, t) → ∀ Q : VK, (∀ v F' H', Sat b F0 H0 (Γ.set i (.mu (M t))) σ F' H' → Grow F (rmA H l) F' H' → C.rep r v F' → Q v H') → wE X e σ H Q
def JQA (X : Cx) (b : Bool) (es : List Expr) (Γ : List En) (i : Nat) (l : Addr) {T A : Type} (M : T → MFact) (s : T) (φs : A → List Fact) (m : Option (A × T)) : Prop :=
  ∀ F0 H0 σ F H, Sat b F0 H0 (Γ.set i (.mu (M s))) σ F H → σ[i]? = some (some (.ref l)) → ∀ r t, m = some (r, t) → ∀ Q : List V → Hp → Prop, (∀ vs F' H', Sat b F0 H0 (Γ.set i (.mu (M t))) σ F' H' → Grow F (rmA H l) F' H' → Args (φs r) vs F' → Q vs H') → wA X es σ H Q
def JM (X : Cx) (b : Bool) (sts : List Stmt) (Γ : List En) (i : Nat) (l : Addr) {T R : Type} (M : T → MFact) (s : T) (C : Cd R) (m : Option (R × T)) : Prop :=
  ∀ F0 H0 σ F H, Sat b F0 H0 (Γ.set i (.mu (M s))) σ F H → σ[i]? = some (some (.ref l)) → ∀ r t, m = some (r, t) → ∀ D : Ends,
    (∀ v F' H' o', Grow F0 H0 F' H' → H' l = some o' → F' l = none → (M t).p o' F' → C.rep r v F' → D.rt v H') → wS X sts D σ H
section
variable {X : Cx} {b : Bool} {Γ : List En} {i : Nat} {l : Addr} {T : Type} {M : T → MFact} {s : T} {rest : List Stmt}
theorem jq_je {e : Expr} {α : Type} {C : Cd α} {m : Option α} (h : JE X b e (Γ.set i (.mu (M s))) (fr C) m) : JQ X b e Γ i l M s C (qRet m s) := by
  intro F0 H0 σ F H A hs r t em Q q
  obtain ⟨a, e1, e2⟩ := bind_some em
  cases e2
  exact h F0 H0 σ F H A _ e1 Q fun v F' H' g r => q v F' H' (A.grow g) (g.rm (A.lentNf hs)) r
theorem jq_own {x : Str} {pos : Pos} (hN : X.N[i]? = some x) (hv : Vis X.env.scope x) (hd : (x == ("__debug__" : Str)) = false := by decide) (hcd : (x == ("__classdict__" : Str)) = false := by decide) : JQ X b (.Name x pos) Γ i l M s (cAd l) (some ((), s)) := by
  intro F0 H0 σ F H A hs r t em Q q
  cases em
  exact wE_of (pe_var hN hv hd hcd) ⟨_, hs, q _ F H A ((Grow.refl A.gr.fx).rm (A.lentNf hs)) rfl⟩
theorem jqa_nil : JQA X b [] Γ i l M s (fun _ : Unit => []) (some ((), s)) := by
  intro F0 H0 σ F H A hs r t em Q q
  cases em
  exact wA_of pa_nil (q [] F H A ((Grow.refl A.gr.fx).rm (A.lentNf hs)) .nil)
theorem jqa_cons {e : Expr} {es : List Expr} {α A : Type} {C : Cd α} {φs : A → List Fact} {m1 : Option (α × T)} {m2 : T → Option (A × T)} (h1 : JQ X b e Γ i l M s C m1) (h2 : ∀ t, JQA X b es Γ i l M t φs (m2 t)) (hs : starEach (e :: es) X.env = (false, eval e X.env) :: starEach es X.env := by rfl) :
    JQA X b (e :: es) Γ i l M s (fun x : α × A => C.at x.1 :: φs x.2) (qCons m1 m2) := by
  intro F0 H0 σ F H A hσ r t em Q q
  obtain ⟨⟨a, t1⟩, e1, e2⟩ := bind_some em
  obtain ⟨⟨x, t2⟩, e3, e4⟩ := bind_some e2
  cases e4
  refine wA_of (pa_cons pe_w pa_w hs) ?_
  refine h1 F0 H0 σ F H A hσ a t1 e1 _ fun v F1 H1 A1 s1 r1 => ?_
  refine h2 t1 F0 H0 σ F1 H1 A1 hσ x t2 e3 _ fun vs F2 H2 A2 s2 r2 => ?_
  exact q (v :: vs) F2 H2 A2 (s1.rmTrans s2) (.cons (C.mono _ _ _ _ s2.fs r1) r2)
theorem jq_co {e : Expr} {α β : Type} {C : Cd α} {D : Cd β} {f : α → β} {m : Option (α × T)} (hC : ∀ x v F, C.rep x v F → D.rep (f x) v F) (h : JQ X b e Γ i l M s C m) : JQ X b e Γ i l M s D (qMap f m) := by
  intro F0 H0 σ F H A hσ r t em Q q
  obtain ⟨⟨a, t1⟩, e1, e2⟩ := bind_some em
  cases e2
  exact h F0 H0 σ F H A hσ a t1 e1 Q fun v F' H' A' s' r => q v F' H' A' s' (hC a v F' r)
theorem jq_eq {e : Expr} {α : Type} {C : Cd α} {m m' : Option (α × T)} (h : JQ X b e Γ i l M s C m) (q : m = m') : JQ X b e Γ i l M s C m' := q ▸ h
/- an ordinary def -/
theorem jq_call {x : Str} {p pos : Pos} {e : Expr} {es : List Expr} {ps : List Str} {j n : Nat} {A R : Type} {b' : Bool} {φs φs' : A → List Fact} {m : A → Option R} {C : Cd R} {ma : Option (A × T)}
    (c : Cal X.prog X.w X.K X.mg X.base j x ps (SpG b' φs m (fr C))) (hr : Room n X.A) (hg : Gl X x) (ha : JQA X b (e :: es) Γ i l M s φs' ma) (hbb : j ≤ n ∧ (b' = true → b = true)) (hφ : φs' = φs := by rfl) (hdb : (x == ("__debug__" : Str)) = false := by decide)
    (he : starEach (e :: es) X.env = (false, eval e X.env) :: starEach es X.env := by rfl) (hpl : (backTo pos (starEach es X.env)).any (·.1) = false := by rfl) :
    JQ X b (.Call (.Name x p) (e :: es) [] pos) Γ i l M s C (qCall ma m) := by
  obtain ⟨f, fd, Fn, h1, h2, h3⟩ := c
  subst hφ
  intro F0 H0 σ F H A hσ r t em Q q
  obtain ⟨⟨a, t1⟩, e1, e2⟩ := bind_some em
  obtain ⟨r1, e3, e4⟩ := bind_some e2
  cases e4
  refine wE_of (pe_call (E := E0) (dvs := []) Fn (hr.mono hbb.1) hg h1 h2 h3 .nil pass0 pa_w hdb he hpl) ?_
  refine ha F0 H0 σ F H A hσ a t1 e1 _ fun vs F1 H1 A1 s1 r1 => ?_
  rw [List.append_nil]
  exact ⟨a, F1, _, A1.gr.fx, fun z => A1.nl (hbb.2 z), r1, e3, fun v F2 H2 g2 r2 => q v F2 H2 (A1.grow g2) (s1.rmTrans (g2.rm (A1.lentNf hσ))) r2⟩
/- a def that is lent the object -/
theorem jq_callM {x : Str} {p pos : Pos} {e : Expr} {es : List Expr} {ps : List Str} {j n : Nat} {A R : Type} {b' : Bool} {φs : Addr → A → List Fact} {φs' : A → List Fact} {m : A → T → Option (R × T)} {C : Cd R} {ma : Option (A × T)} (hi : i < Γ.length)
    (c : Cal X.prog X.w X.K X.mg X.base j x ps (SpM b' M φs m C)) (hr : Room n X.A) (hg : Gl X x) (ha : JQA X b (e :: es) Γ i l M s φs' ma) (hbb : j ≤ n ∧ (b' = true → b = true)) (hφ : φs' = φs l := by rfl) (hdb : (x == ("__debug__" : Str)) = false := by decide)
    (he : starEach (e :: es) X.env = (false, eval e X.env) :: starEach es X.env := by rfl) (hpl : (backTo pos (starEach es X.env)).any (·.1) = false := by rfl) :
    JQ X b (.Call (.Name x p) (e :: es) [] pos) Γ i l M s C (qCallM ma m) := by
  obtain ⟨f, fd, Fn, h1, h2, h3⟩ := c
  subst hφ
  intro F0 H0 σ F H A hσ r t em Q q
  obtain ⟨⟨a, t1⟩, e1, e2⟩ := bind_some em
  refine wE_of (pe_call (E := E0) (dvs := []) Fn (hr.mono hbb.1) hg h1 h2 h3 .nil pass0 pa_w hdb he hpl) ?_
  refine ha F0 H0 σ F H A hσ a t1 e1 _ fun vs F1 H1 A1 s1 r1 => ?_
  rw [List.append_nil]
  obtain ⟨l', o, q1, q2, q3, q4, q5⟩ := A1.mu i _ (List.getElem?_set_self hi)
  rw [hσ] at q1
  have e5 : l = l' := by injection q1 with z; injection z with z; injection z
  subst e5
  exact ⟨l, a, t1, F1, r, t, o, A1.gr.fx, fun z => A1.nl (hbb.2 z), r1, q2, q3, q5, e2, fun v F2 H2 o2 g2 w1 w2 w3 r2 => q v F2 H2 (A1.lent hi hσ g2 w1 w2 w3) (s1.rmTrans g2) r2⟩
/- displays -/
theorem jq_tupN {es : List Expr} {x1 : Nat} {pos : Pos} {A : Type} {φs : A → List Fact} {m : Option (A × T)} {γ : Type} {C : Cd γ} {f : A → γ} (ha : JQA X b es Γ i l M s φs m) (hC : ∀ a vs F, Args (φs a) vs F → ∀ p, F p = some (.tup vs) → C.rep (f a) (.ref p) F) (hl : ∀ a, (φs a).length ≤ 1000) :
    JQ X b (.Tuple es x1 pos) Γ i l M s C (m.bind fun a => some (f a.1, a.2)) := by
  intro F0 H0 σ F H A hσ r t em Q q
  obtain ⟨⟨a, t1⟩, e1, e2⟩ := bind_some em
  cases e2
  refine wE_of (pe_tup pa_w) ?_
  refine ha F0 H0 σ F H A hσ a t1 e1 _ fun vs F' H' A' s' r => ⟨?_, fun p hp => ?_⟩
  · rw [← Paired.length r]
    exact Nat.le_trans (hl a) (by decide)
  · have g := Grow.put (o := .tup vs) A'.gr.fx hp fun z => z
    exact q _ _ _ (A'.grow g) (s'.rmTrans (g.rm (A'.lentNf hσ))) (hC a vs _ (paired_mono r fun φ v h => φ.mono _ _ _ g.fs h) p upd_same)
theorem jq_tup2 {e1 e2 : Expr} {x1 : Nat} {pos : Pos} {α β : Type} {A : Cd α} {B : Cd β} {m1 : Option (α × T)} {m2 : T → Option (β × T)} (h1 : JQ X b e1 Γ i l M s A m1) (h2 : ∀ t, JQ X b e2 Γ i l M t B (m2 t)) (s1 : starEach [e1, e2] X.env = (false, eval e1 X.env) :: starEach [e2] X.env := by rfl) (s2 : starEach [e2] X.env = (false, eval e2 X.env) :: starEach [] X.env := by rfl) :
    JQ X b (.Tuple [e1, e2] x1 pos) Γ i l M s (c2 A B) (qTup2 m1 m2) := by
  refine jq_eq (jq_tupN (C := c2 A B) (f := fun a : α × β × Unit => (a.1, a.2.1)) (jqa_cons h1 (fun t => jqa_cons (h2 t) (fun _ => jqa_nil) s2) s1) (fun a vs F r p hp => ?_) (fun _ => by show 2 ≤ 1000; decide)) ?_
  · cases r with
    | cons r1 r => cases r with
      | cons r2 r => cases r; exact ⟨p, _, _, rfl, hp, r1, r2⟩
  · cases m1 with
    | none => rfl
    | some a => cases h : m2 a.2 <;> simp [h, qCons, qTup2]
theorem jq_tup3 {e1 e2 e3 : Expr} {x1 : Nat} {pos : Pos} {α β γ : Type} {A : Cd α} {B : Cd β} {C : Cd γ} {m1 : Option (α × T)} {m2 : T → Option (β × T)} {m3 : T → Option (γ × T)} (h1 : JQ X b e1 Γ i l M s A m1) (h2 : ∀ t, JQ X b e2 Γ i l M t B (m2 t)) (h3 : ∀ t, JQ X b e3 Γ i l M t C (m3 t))
    (s1 : starEach [e1, e2, e3] X.env = (false, eval e1 X.env) :: starEach [e2, e3] X.env := by rfl) (s2 : starEach [e2, e3] X.env = (false, eval e2 X.env) :: starEach [e3] X.env := by rfl) (s3 : starEach [e3] X.env = (false, eval e3 X.env) :: starEach [] X.env := by rfl) :
    JQ X b (.Tuple [e1, e2, e3] x1 pos) Γ i l M s (c3 A B C) (qTup3 m1 m2 m3) := by
  refine jq_eq (jq_tupN (C := c3 A B C) (f := fun a : α × β × γ × Unit => (a.1, a.2.1, a.2.2.1)) (jqa_cons h1 (fun t => jqa_cons (h2 t) (fun t => jqa_cons (h3 t) (fun _ => jqa_nil) s3) s2) s1) (fun a vs F r p hp => ?_) (fun _ => by show 3 ≤ 1000; decide)) ?_
  · cases r with
    | cons r1 r => cases r with
      | cons r2 r => cases r with
        | cons r3 r => cases r; exact ⟨p, _, _, _, rfl, hp, r1, r2, r3⟩
  · cases m1 with
    | none => rfl
    | some a => cases h : m2 a.2 with
      | none => simp [h, qCons, qTup3]
      | some c => cases h' : m3 c.2 <;> simp [h, h', qCons, qTup3]
/- ## blocks -/
theorem jm_ret {e : Expr} {pos : Pos} {R : Type} {C : Cd R} {m : Option (R × T)} (hi : i < Γ.length) (h : JQ X b e Γ i l M s C m) : JM X b (.Return (some e) pos :: rest) Γ i l M s C m := by
  intro F0 H0 σ F H A hσ r t em D P
  refine wS_of (pss_cons (ps_ret pe_w) (pss_never (sts := rest))) ?_
  refine h F0 H0 σ F H A hσ r t em _ fun v F' H' A' s' q => ?_
  obtain ⟨l', o, q1, q2, q3, q4, q5⟩ := A'.mu i _ (List.getElem?_set_self hi)
  rw [hσ] at q1
  have e5 : l = l' := by injection q1 with z; injection z with z; injection z
  subst e5
  exact P v F' H' o A'.gr q2 q3 q5 q
theorem jm_if {c : Expr} {p : Pos} {yes : List Stmt} {R : Type} {C : Cd R} {mc : Option Bool} {m1 m2 : Option (R × T)} (hc : JT X b c (Γ.set i (.mu (M s))) mc) (h1 : JM X b yes Γ i l M s C m1)
    (hr : JM X b rest Γ i l M s C m2) : JM X b (.If c yes [] p :: rest) Γ i l M s C (mc.bind fun t => if t = true then m1 else m2) := by
  intro F0 H0 σ F H A hσ r t em D P
  obtain ⟨t', e1, e2⟩ := bind_some em
  refine wS_of (pss_cons (ps_if pt_w (pss_w (sts := yes)) pss_nil) pss_w) ?_
  refine hc F0 H0 σ F H A t' e1 _ fun F' H' g => ?_
  have A' := A.grow g
  cases t' with
  | true =>
    rw [if_pos rfl] at e2 ⊢
    exact h1 F0 H0 σ F' H' A' hσ r t e2 _ P
  | false =>
    rw [if_neg Bool.false_ne_true] at e2 ⊢
    exact hr F0 H0 σ F' H' A' hσ r t e2 D P
theorem jm_asg {j : Nat} {x : Str} {e : Expr} {pos pos' : Pos} {α R : Type} {C' : Cd α} {C : Cd R} {m : Option (α × T)} {f : α → T → Option (R × T)} (hij : i ≠ j) (hN : X.N.Nodup) (hi : X.N[j]? = some x) (hx : Loc X.env.scope x) (he : JQ X b e Γ i l M s C' m)
    (hr : ∀ a t, JM X b rest (Γ.set j (.fz (C'.at a))) i l M t C (f a t)) (hs : swapsWith e (some (.Name x pos')) pos.line X.env = pure false := by rfl)
    (hf : X.fn x = true ∨ X.env.scope.names.lookup x = some .local := by first | exact .inl rfl | exact .inr rfl | assumption) :
    JM X b (.Assign [.Name x pos'] e pos :: rest) Γ i l M s C (qb m f) := by
  intro F0 H0 σ F H A hσ r t em D P
  obtain ⟨⟨a, t1⟩, h1, h2⟩ := bind_some em
  refine wS_of (pss_cons (ps_set hN hi hx pe_w hs hf) pss_w) ?_
  refine he F0 H0 σ F H A hσ a t1 h1 _ fun v F' H' A' s' q => ?_
  have A2 := A'.put (i := j) (φ := C'.at a) q
  rw [List.set_comm _ _ hij] at A2
  exact hr a t1 F0 H0 _ F' H' A2 (by rw [List.getElem?_set_ne (Ne.symm hij)]; exact hσ) r t h2 D P
end
section
variable {X : Cx} {b : Bool} {Γ : List En} {i : Nat} {l : Addr} {rest : List Stmt}
/- xs[i] = v in what is lent -/
theorem jm_setI {x : Str} {p pos pos' : Pos} {e kx : Expr} {α R : Type} {C' : Cd α} {C : Cd R} {xs : List α} {m : Option α} {mk : Option Int} {f : List α → Option (R × List α)} (hi : i < Γ.length) (hN : X.N[i]? = some x) (hv : Vis X.env.scope x)
    (he : JE X b e (Γ.set i (.mu (mL C' xs))) (fr C') m) (hk : JE X b kx (Γ.set i (.mu (mL C' xs))) (fr cI) mk) (hr : ∀ ys, JM X b rest Γ i l (mL C') ys C (f ys)) (hs : swapsWithSole [.Subscript (.Name x p) kx pos'] e pos.line X.env = pure false := by rfl) (hw : swappedStores [.Subscript (.Name x p) kx pos'] e X.env = pure none := by rfl)
    (h1' : (assignEach [.Subscript (.Name x p) kx pos'] X.env).map (·.2) = [assign (.Subscript (.Name x p) kx pos') X.env] := by rfl)
    (ha : ∀ v, assign (.Subscript (.Name x p) kx pos') X.env v = (do
      let ov ← holding [v] (eval (.Name x p) X.env)
      let iv ← holding [v, ov] (eval kx X.env)
      standAt pos'
      holding [v, ov, iv] (setItem ov iv v)
      release [v, ov, iv] []) := by intro _; rfl)
    (hd : (x == ("__debug__" : Str)) = false := by decide) (hcd : (x == ("__classdict__" : Str)) = false := by decide) :
    JM X b (.Assign [.Subscript (.Name x p) kx pos'] e pos :: rest) Γ i l (mL C') xs C ((m.bind fun a => mk.bind fun i => setI xs i a).bind f) := by
  intro F0 H0 σ F H A hσ r t em D P
  obtain ⟨ys, e0, e2⟩ := bind_some em
  obtain ⟨a, e1, e3⟩ := bind_some e0
  obtain ⟨kk, e4, e5⟩ := bind_some e3
  obtain ⟨j, e6, e7⟩ := bind_some e5
  cases e7
  refine wS_of (pss_cons (ps_asg pe_w (pg_sub (pe_var hN hv hd hcd) pe_w set_list ha) hs hw h1') pss_w) ?_
  obtain ⟨l', ob, h1, h2, h3, h4, vs, rfl, h6⟩ := A.mu i _ (List.getElem?_set_self hi)
  refine he F0 H0 σ F H A a e1 _ fun v F1 H1 g1 r1 => ?_
  refine ⟨_, h1, ?_⟩
  refine hk F0 H0 σ F1 H1 (A.grow g1) kk e4 _ fun w F2 H2 g2 r2 => ?_
  cases (show w = .int kk from r2)
  have g := g1.trans g2
  have h2' : H2 l' = some (.lst vs) := g.hs _ _ h2
  refine ⟨l', vs, kk, j, rfl, rfl, h2', by rw [← Paired.length h6]; exact e6, ?_⟩
  have A3 := (A.grow g).chg (ψ' := mL C' (xs.set j a)) (List.getElem?_set_self hi) h1 h2' (g.stays h3 h2) h4 ⟨_, rfl, paired_set (G := fun a v => C'.rep a v F2) (C'.mono _ _ _ _ g2.fs r1) j (paired_mono h6 fun _ _ q => C'.mono _ _ _ _ g.fs q)⟩
  rw [List.set_set] at A3
  exact hr _ F0 H0 σ F2 _ A3 hσ r t e2 D P
end

/- ## the def itself -/
theorem env0_mu {φs : List Fact} {n j : Nat} {ψ : MFact} : (env0 φs n)[j]? ≠ some (.mu ψ) := fun e => by
  unfold env0 at e
  by_cases hi : j < φs.length
  · rw [List.getElem?_append_left (by simpa using hi), List.getElem?_map] at e
    cases q : φs[j]? with
    | none => rw [q] at e; cases e
    | some φ' => rw [q] at e; cases e
  · rw [List.getElem?_append_right (by simpa using hi), List.getElem?_replicate] at e
    split at e <;> cases e
theorem env0_ow {φs : List Fact} {n j : Nat} {χ : OFact} : (env0 φs n)[j]? ≠ some (.ow χ) := fun e => by
  unfold env0 at e
  by_cases hi : j < φs.length
  · rw [List.getElem?_append_left (by simpa using hi), List.getElem?_map] at e
    cases q : φs[j]? with
    | none => rw [q] at e; cases e
    | some φ' => rw [q] at e; cases e
  · rw [List.getElem?_append_right (by simpa using hi), List.getElem?_replicate] at e
    split at e <;> cases e
section
variable {P : Program} {w : World} {K : PySem.W.Frag} {mg : Str → Option Value} {base : Heap}
theorem fn_m {x qual : Str} {st : Stmt} {f : Addr} {fd : FuncData} {N ps : List Str} {j i : Nat} {A R T : Type} {b : Bool} {M : T → MFact} {φs : Addr → A → List Fact} {m : A → T → Option (R × T)} {C : Cd R} (Fu : Fun K x qual st f fd) (S : FnScope N ps (defScope st)) (hl : ∀ l x, (φs l x).length = ps.length)
    (hp : ∀ l x, (φs l x)[i]? = some ((cAd l).at ()))
    (body : ∀ (X : Cx) (l : Addr) (x : A) (s : T), (∃ cdv Ar outer s H E, X = (cxOf CX0 P w K mg base N qual (defScope st) f cdv Ar outer s H E).nox) → Room j X.A → JM X b (defBody st) (env0 (φs l x) (N.length - ps.length)) i l M s C (m x s)) :
    FnOk P w K mg base CX0 (j + 1) f fd ps (SpM b M φs m C) := by
  refine Fu.ok S (fun vs H Q E h => ?_) (fun cdv Ar outer s H vs Q E hr h => ?_)
  · obtain ⟨l, x, s, F, r, t, o, _, _, h, _⟩ := h
    exact (Paired.length h).symm.trans (hl l x)
  · obtain ⟨l, x, s', F, r, t, o, fx, n, h, h1, h2, h3, hm, q⟩ := h
    refine ⟨_, pss_w, ?_⟩
    have hpl : ps.length ≤ N.length := by have := congrArg List.length S.pre; rw [List.length_take] at this; omega
    have A := sat0 (N := N) fx n h (by rw [hl]; exact hpl)
    rw [hl l x] at A
    have ei : (env0 (φs l x) (N.length - ps.length))[i]? = some (.fz ((cAd l).at ())) := by
      unfold env0
      have hi : i < (φs l x).length := (List.getElem?_eq_some_iff.mp (hp l x)).1
      rw [List.getElem?_append_left (by simpa using hi), List.getElem?_map, hp l x]; rfl
    obtain ⟨v, hv, hv2⟩ := A.fz i _ ei
    have hv3 : v = .ref l := hv2
    subst hv3
    have A2 := A.lend (ψ := M s') (fun j ψ => env0_mu) (fun j χ => env0_ow) hv h1 h2 h3
    exact body _ l x s' ⟨cdv, Ar, outer, s, H, E, rfl⟩ hr F (rmA H l) _ F H A2 hv r t hm _ fun v F' H' o' g w1 w2 w3 w4 => q v F' H' o' g w1 w2 w3 w4
end
section
variable {P : Program} {w : World} {K : PySem.W.Frag} {mg : Str → Option Value} {base : Heap}
theorem fn_noneM {j : Nat} {f : Addr} {fd : FuncData} {ps : List Str} {A R T : Type} {b : Bool} {M : T → MFact} {φs : Addr → A → List Fact} {m : A → T → Option (R × T)} {C : Cd R} (hm : ∀ x s, m x s = none) : FnOk P w K mg base CX0 j f fd ps (SpM b M φs m C) :=
  ⟨fun vs H Q E h => (by obtain ⟨l, x, s, F, r, t, o, _, _, _, _, _, _, h, _⟩ := h; rw [hm x s] at h; cases h), fun A outer s H args us vs Q E _ _ _ _ h => (by obtain ⟨l, x, s, F, r, t, o, _, _, _, _, _, _, h, _⟩ := h; rw [hm x s] at h; cases h)⟩
theorem fn_noneX {j : Nat} {f : Addr} {fd : FuncData} {ps : List Str} {A R : Type} {b : Bool} {φs : A → List Fact} {m : A → Option (Ret R)} {k : Rk R} (hm : ∀ x, m x = none) : FnOk P w K mg base (L2.CX P w) j f fd ps (SpX mg b φs m k) :=
  ⟨fun vs H Q E h => (by obtain ⟨x, F, r, _, _, _, h, _⟩ := h; rw [hm x] at h; cases h), fun A outer s H args us vs Q E _ _ _ _ h => (by obtain ⟨x, F, r, _, _, _, h, _⟩ := h; rw [hm x] at h; cases h)⟩
end
/- ## a call that is lent a new object, which then is left -/
def JAN (X : Cx) (b : Bool) (es : List Expr) (Γ : List En) {A T : Type} (φs : Addr → A → List Fact) (M : T → MFact) (m : Option (A × T)) : Prop :=
  ∀ F0 H0 σ F H, Sat b F0 H0 Γ σ F H → ∀ a t, m = some (a, t) → ∀ Q : List V → Hp → Prop, (∀ l o vs F' H', Grow F H F' H' → H l = none → H' l = some o → F' l = none → (M t).p o F' → Args (φs l a) vs F' → Q vs H') → wA X es σ H Q
section
variable {X : Cx} {b : Bool} {Γ : List En} {T : Type} {M : T → MFact}
theorem jan_cons {e : Expr} {es : List Expr} {α A : Type} {C : Cd α} {φs : Addr → A → List Fact} {m1 : Option α} {m2 : Option (A × T)} (h1 : JE X b e Γ (fr C) m1) (h2 : JAN X b es Γ φs M m2) (hs : starEach (e :: es) X.env = (false, eval e X.env) :: starEach es X.env := by rfl) :
    JAN X b (e :: es) Γ (fun l (x : α × A) => C.at x.1 :: φs l x.2) M (bind2 m1 m2 pConsA) := by
  intro F0 H0 σ F H A a t ea Q q
  obtain ⟨a1, ⟨x, t1⟩, e1, e2, e3⟩ := bind2_some ea
  cases e3
  refine wA_of (pa_cons pe_w pa_w hs) ?_
  refine h1 F0 H0 σ F H A a1 e1 _ fun v F1 H1 g1 r1 => ?_
  refine h2 F0 H0 σ F1 H1 (A.grow g1) x t1 e2 _ fun l o vs F2 H2 g2 w1 w2 w3 w4 r2 => ?_
  exact q l o (v :: vs) F2 H2 (g1.trans g2) (g1.hs.free w1) w2 w3 w4 (.cons (C.mono _ _ _ _ g2.fs r1) r2)
theorem jan_new {e : Expr} {es : List Expr} {A : Type} {φs : A → List Fact} {m1 : Option T} {m2 : Option A} (h1 : JE X b e Γ (nw M) m1) (h2 : JA X b es Γ φs m2) (hs : starEach (e :: es) X.env = (false, eval e X.env) :: starEach es X.env := by rfl) :
    JAN X b (e :: es) Γ (fun l (x : Unit × A) => (cAd l).at x.1 :: φs x.2) M (bind2 m1 m2 pConsL) := by
  intro F0 H0 σ F H A a t ea Q q
  obtain ⟨t1, x, e1, e2, e3⟩ := bind2_some ea
  cases e3
  refine wA_of (pa_cons pe_w pa_w hs) ?_
  refine h1 F0 H0 σ F H A _ e1 _ fun v F1 H1 g1 r1 => ?_
  obtain ⟨l, o, rfl, w1, w2, w3, w4⟩ := r1
  refine h2 F0 H0 σ F1 H1 (A.grow g1) x e2 _ fun vs F2 H2 g2 r2 => ?_
  exact q l o (.ref l :: vs) F2 H2 (g1.trans g2) w1 (g2.hs _ _ w2) (g2.stays w3 w2) ((M _).mono _ _ _ g2.fs w4) (.cons rfl r2)
theorem je_callN {x : Str} {p pos : Pos} {e : Expr} {es : List Expr} {ps : List Str} {j n : Nat} {A R : Type} {b' : Bool} {φs φs' : Addr → A → List Fact} {m : A → T → Option (R × T)} {C : Cd R} {ma : Option (A × T)}
    (c : Cal X.prog X.w X.K X.mg X.base j x ps (SpM b' M φs m C)) (hr : Room n X.A) (hg : Gl X x) (ha : JAN X b (e :: es) Γ φs' M ma) (hbb : j ≤ n ∧ (b' = true → b = true)) (hφ : φs' = φs := by rfl) (hdb : (x == ("__debug__" : Str)) = false := by decide)
    (he : starEach (e :: es) X.env = (false, eval e X.env) :: starEach es X.env := by rfl) (hpl : (backTo pos (starEach es X.env)).any (·.1) = false := by rfl) :
    JE X b (.Call (.Name x p) (e :: es) [] pos) Γ (fr C) (qDrop ma m) := by
  obtain ⟨f, fd, Fn, h1, h2, h3⟩ := c
  subst hφ
  intro F0 H0 σ F H A r em Q q
  obtain ⟨⟨a, t1⟩, e1, e2⟩ := bind_some em
  obtain ⟨⟨r1, t2⟩, e3, e4⟩ := bind_some e2
  cases e4
  refine wE_of (pe_call (E := E0) (dvs := []) Fn (hr.mono hbb.1) hg h1 h2 h3 .nil pass0 pa_w hdb he hpl) ?_
  refine ha F0 H0 σ F H A a t1 e1 _ fun l o vs F1 H1 g1 w1 w2 w3 w4 ra => ?_
  rw [List.append_nil]
  exact ⟨l, a, t1, F1, _, t2, o, g1.fx, fun z => (A.grow g1).nl (hbb.2 z), ra, w2, w3, w4, e3, fun v F2 H2 o2 g2 _ _ _ r2 => q v F2 H2 (g1.newGone w1 g2) r2⟩
end
/- xs != [] -/
def rNe0 (K : PySem.W.Frag) : R2 := fun x y H Q => ∃ a b xs, x = .ref a ∧ y = .ref b ∧ SqL K H a xs ∧ SqL K H b [] ∧ Q (.bl (!xs.isEmpty)) H
theorem op_ne0 {X : Cx} (hu : X.A.units < cLine) : OpR X (compareOp .NotEq) (rNe0 X.K) := by
  intro pins s σ H x y v u Q I rx ry h
  obtain ⟨a, b, xs, rfl, rfl, ha, hb, q⟩ := h
  cases (show v = Value.ref a from rx)
  cases (show u = Value.ref b from ry)
  obtain ⟨us, r1, p1, _⟩ := I.list ha
  obtain ⟨ws, r2, p2, _⟩ := I.list hb
  cases r2
  cases xs with
  | nil =>
    cases r1
    refine SeqAt.RcNeAt.lists (e := fun _ => true) p1.isList p2.isList rfl hu (fun j h1 => absurd h1 (Nat.not_lt_zero _)) X.prog X.w _ _ ?_
    exact ⟨.bl false, H, I, rfl, q⟩
  | cons z zs =>
    have hl := r1.length
    refine SeqAt.RcNeAt.lists_lengths p1.isList p2.isList (by rw [List.size_toArray, ← hl]; simp) hu X.prog X.w _ _ ?_
    exact ⟨.bl true, H, I, rfl, q⟩
def pNe0 {α β : Type} (xs : List α) (ys : List β) : Option Bool := if ys.isEmpty then some (!xs.isEmpty) else none
theorem r2_ne0 {K : PySem.W.Frag} {α β : Type} {C : Cd α} {D : Cd β} : R2Ok (rNe0 K) (cL C) (cL D) (fr cB) pNe0 := by
  rintro xs ys vx vy F H fx ⟨p, vs, rfl, h1, h2⟩ ⟨p', vs', rfl, h3, h4⟩ z ez Q q
  cases ys with
  | cons y r => cases ez
  | nil =>
    cases ez
    cases h4
    refine ⟨p, p', vs, rfl, rfl, SqL.of (lst_of fx h1), SqL.of (lst_of fx h3), q _ F H (Grow.refl fx) ?_⟩
    cases h2 <;> rfl
end Cw
/- CwExp21: an object of one's own, with others of one's own behind it, is lent to a def that changes it; in blocks as all others. Slot i holds the address l. -/
namespace Cw
open PySem PySem.Spec L2
open PyProof.Rows hiding St
def atA (l : Addr) (χ : OFact) : OFact where
  p := fun l' o R F => l' = l ∧ χ.p l' o R F
  mono := fun l' o R F F' s h => ⟨h.1, χ.mono l' o R F F' s h.2⟩
  nofrz := fun l' o R F h => χ.nofrz l' o R F h.2
def oM (ψ : MFact) : OFact where
  p := fun _ o R F => (∀ a, R a = none) ∧ ψ.p o F
  mono := fun _ o R F F' s h => ⟨h.1, ψ.mono o F F' s h.2⟩
  nofrz := fun _ o R F h => ⟨ψ.nofrz o F h.2, fun a u e => by rw [h.1 a] at e; cases e⟩
def rmR (H : Hp) (l : Addr) (R : Hp) : Hp := fun a => if a = l then none else match R a with | some _ => none | none => H a
theorem rmR_l {H R : Hp} {l : Addr} : rmR H l R l = none := if_pos rfl
theorem rmR_R {H R : Hp} {l a : Addr} {u : HO} (h : R a = some u) : rmR H l R a = none := by
  unfold rmR
  split
  · rfl
  · rw [h]
theorem rmR_ne {H R : Hp} {l a : Addr} (h1 : a ≠ l) (h2 : R a = none) : rmR H l R a = H a := by
  unfold rmR
  rw [if_neg h1, h2]
theorem rmR_some {H R : Hp} {l a : Addr} {u : HO} (h : rmR H l R a = some u) : a ≠ l ∧ R a = none ∧ H a = some u := by
  by_cases c : a = l
  · subst c; rw [rmR_l] at h; cases h
  · cases q : R a with
    | some v => rw [rmR_R q] at h; cases h
    | none => rw [rmR_ne c q] at h; exact ⟨c, rfl, h⟩
theorem rmR_none {H R : Hp} {l a : Addr} (h : rmR H l R a = none) : a = l ∨ (∃ u, R a = some u) ∨ H a = none := by
  by_cases c : a = l
  · exact .inl c
  · cases q : R a with
    | some v => exact .inr (.inl ⟨v, rfl⟩)
    | none => rw [rmR_ne c q] at h; exact .inr (.inr h)
/- what a lent object may be after -/
structure LentOk (H : Hp) (l : Addr) (R0 F' H' : Hp) (χ : OFact) (o' : HO) (R' : Hp) : Prop where
  hl : H' l = some o'
  fl : F' l = none
  rl : R' l = none
  rs : ∀ a u, R' a = some u → H' a = some u ∧ F' a = none ∧ rmR H l R0 a = none
  p : χ.p l o' R' F'
theorem Grow.preR {F H F1 H1 F2 H2 : Hp} {l : Addr} {R : Hp} (g : Grow F H F1 H1) (h : Grow F1 (rmR H1 l R) F2 H2) : Grow F (rmR H l R) F2 H2 where
  fs := g.fs.trans h.fs
  fx := h.fx
  hs := fun a u e => by
    obtain ⟨e1, e2, e3⟩ := rmR_some e
    exact h.hs a u (by rw [rmR_ne e1 e2]; exact g.hs a u e3)
  nw := fun a e => by
    rcases h.nw a e with z | z
    · rcases g.nw a z with y | y
      · exact .inl y
      · refine .inr ?_
        cases q : rmR H l R a with
        | none => rfl
        | some u => rw [(rmR_some q).2.2] at y; cases y
    · refine .inr ?_
      cases q : rmR H l R a with
      | none => rfl
      | some u =>
        obtain ⟨e1, e2, e3⟩ := rmR_some q
        rw [rmR_ne e1 e2, g.hs a u e3] at z; cases z
  nf := fun a ob u d e => by
    obtain ⟨e1, e2, e3⟩ := rmR_some (h.nf a ob u d e)
    rw [rmR_ne e1 e2]
    exact g.nf a ob u d e3
theorem rmR_back {F H F1 H1 : Hp} {l a : Addr} {R : Hp} (g : Grow F H F1 H1) (h : rmR H1 l R a = none) : rmR H l R a = none := by
  cases q : rmR H l R a with
  | none => rfl
  | some u =>
    obtain ⟨e1, e2, e3⟩ := rmR_some q
    rw [rmR_ne e1 e2, g.hs a u e3] at h; cases h
section
variable {b : Bool} {F0 H0 F H F' H' : Hp} {Γ : List En} {σ : St}
/- the def's own view -/
theorem Sat.lendO {i : Nat} {l : Addr} {o : HO} {R : Hp} {χ : OFact} (A : Sat b F H Γ σ F H) (hi : i < Γ.length) (hm : ∀ (j : Nat) (ψ : MFact), Γ[j]? ≠ some (.mu ψ)) (hw : ∀ (j : Nat) (χ : OFact), Γ[j]? ≠ some (.ow χ)) (hs : σ[i]? = some (some (.ref l))) (h1 : H l = some o) (h2 : F l = none) (h3 : R l = none)
    (h4 : ∀ a u, R a = some u → H a = some u ∧ F a = none) (h : χ.p l o R F) : Sat b F (rmR H l R) (Γ.set i (.ow (atA l χ))) σ F H := by
  have muback : ∀ (j : Nat) (ψ : MFact), (Γ.set i (.ow (atA l χ)))[j]? ≠ some (.mu ψ) := fun j ψ e => hm j ψ (set_back e (fun z => nomatch z)).2
  refine {
    gr := ⟨Same.refl _, A.gr.fx, fun a u e => (rmR_some e).2.2, fun _ h => .inl h, fun a ob u d e => ?_⟩
    nl := A.nl
    len := by rw [List.length_set]; exact A.len
    fz := fun j φ e => A.fz j φ (set_back e (fun z => nomatch z)).2
    mu := fun j ψ e => absurd e (muback j ψ)
    ne := fun j _ ψ _ _ e => absurd e (muback j ψ)
    ow := fun j χ' e => ?_
    ow1 := fun j k χ1 χ2 e1 e2 => ?_ }
  · rw [rmR_ne]
    · exact e
    · intro z
      subst z
      rw [h1] at e
      cases e
      exact (χ.nofrz _ _ _ _ h).1 trivial
    · cases q : R a with
      | none => rfl
      | some w =>
        have := (h4 a w q).1
        rw [e] at this
        cases this
        exact absurd trivial ((χ.nofrz _ _ _ _ h).2 a _ q)
  · by_cases q : i = j
    · subst q
      rw [List.getElem?_set_self hi] at e
      cases e
      exact ⟨l, o, R, hs, h1, h2, rmR_l, h3, fun a u e => ⟨(h4 a u e).1, (h4 a u e).2, rmR_R e⟩, ⟨rfl, h⟩, fun k ψ m e1 _ => absurd e1 (muback k ψ)⟩
    · rw [List.getElem?_set_ne q] at e
      exact absurd e (hw j χ')
  · by_cases q : i = j
    · by_cases q' : i = k
      · exact q.symm.trans q'
      · rw [List.getElem?_set_ne q'] at e2; exact absurd e2 (hw k χ2)
    · rw [List.getElem?_set_ne q] at e1; exact absurd e1 (hw j χ1)
/- the lender's view, after the call -/
theorem Sat.lentO {i : Nat} {l : Addr} {o o' : HO} {R R' : Hp} {χ χ' : OFact} (A : Sat b F0 H0 Γ σ F H) (hg : Γ[i]? = some (.ow χ)) (w : OwAt H0 Γ σ F H i χ l o R) (g : Grow F (rmR H l R) F' H') (k : LentOk H l R F' H' χ' o' R') :
    Sat b F0 H0 (Γ.set i (.ow (atA l χ'))) σ F' H' ∧ OwAt H0 (Γ.set i (.ow (atA l χ'))) σ F' H' i (atA l χ') l o' R' := by
  obtain ⟨w1, w2, w3, w4, w5, w6, w7, w8⟩ := id w
  have hi : i < Γ.length := (List.getElem?_eq_some_iff.mp hg).1
  have muback : ∀ (j : Nat) (ψ : MFact), (Γ.set i (.ow (atA l χ')))[j]? = some (.mu ψ) → Γ[j]? = some (.mu ψ) := fun j ψ e => (set_back e (fun z => nomatch z)).2
  have n0 : ∀ a, rmR H l R a = none → H0 a = none := fun a e => by
    rcases rmR_none e with z | ⟨u, z⟩ | z
    · subst z; exact w4
    · exact (w6 a u z).2.2
    · exact A.gr.hs.free z
  have h0 : ∀ a u, H0 a = some u → rmR H l R a = some u := fun a u e => by
    have z : rmR H l R a ≠ none := fun q => by rw [n0 a q] at e; cases e
    cases q : rmR H l R a with
    | none => exact absurd q z
    | some v => rw [← (rmR_some q).2.2, A.gr.hs a u e]
  have mus : ∀ (j : Nat) (ψ : MFact) (m : Addr), Γ[j]? = some (.mu ψ) → σ[j]? = some (some (.ref m)) → ∃ om, rmR H l R m = some om ∧ F m = none ∧ H0 m = none ∧ ψ.p om F := fun j ψ m e1 e2 => by
    obtain ⟨m', om, q1, q2, q3, q4, q5⟩ := A.mu j ψ e1
    rw [e2] at q1
    have e5 : m = m' := by injection q1 with z; injection z with z; injection z
    subst e5
    obtain ⟨n1, n2⟩ := w8 j ψ m e1 e2
    exact ⟨om, by rw [rmR_ne n1 n2]; exact q2, q3, q4, q5⟩
  have ow : OwAt H0 (Γ.set i (.ow (atA l χ'))) σ F' H' i (atA l χ') l o' R' := by
    refine ⟨w1, k.hl, k.fl, w4, k.rl, fun a u e => ⟨(k.rs a u e).1, (k.rs a u e).2.1, n0 a (k.rs a u e).2.2⟩, ⟨rfl, k.p⟩, fun j ψ m e1 e2 => ?_⟩
    have e1 := muback j ψ e1
    refine ⟨(w8 j ψ m e1 e2).1, ?_⟩
    obtain ⟨om, q, _⟩ := mus j ψ m e1 e2
    cases z : R' m with
    | none => rfl
    | some u => rw [(k.rs m u z).2.2] at q; cases q
  refine ⟨{
    gr := ⟨A.gr.fs.trans g.fs, g.fx, fun a u e => g.hs a u (h0 a u e), fun a e => ?_, fun a ob u d e => A.gr.nf a ob u d (rmR_some (g.nf a ob u d e)).2.2⟩
    nl := fun hb a ob u d e => A.nl hb a ob u d (rmR_some (g.nf a ob u d e)).2.2
    len := by rw [List.length_set]; exact A.len
    fz := fun j φ e => by
      obtain ⟨v, q1, q2⟩ := A.fz j φ (set_back e (fun z => nomatch z)).2
      exact ⟨v, q1, φ.mono _ _ _ g.fs q2⟩
    mu := fun j ψ e => by
      obtain ⟨m, om, q1, _⟩ := A.mu j ψ (muback j ψ e)
      obtain ⟨om, q2, q3, q4, q5⟩ := mus j ψ m (muback j ψ e) q1
      exact ⟨m, om, q1, g.hs _ _ q2, g.stays q3 q2, q4, ψ.mono _ _ _ g.fs q5⟩
    ne := fun j k' ψ1 ψ2 m e1 e2 => A.ne j k' ψ1 ψ2 m (muback j _ e1) (muback k' _ e2)
    ow := fun j χ1 e => ?_
    ow1 := fun j k' χ1 χ2 e1 e2 => ?_ }, ow⟩
  · rcases g.nw a e with z | z
    · exact A.gr.nw a z
    · exact .inr (n0 a z)
  · by_cases q : i = j
    · subst q
      rw [List.getElem?_set_self hi] at e
      cases e
      exact ⟨l, o', R', ow⟩
    · rw [List.getElem?_set_ne q] at e
      exact absurd (A.ow1 i j χ χ1 hg e) q
  · have up : ∀ (t : Nat) (χt : OFact), (Γ.set i (.ow (atA l χ')))[t]? = some (.ow χt) → ∃ χ0 : OFact, Γ[t]? = some (.ow χ0) := fun t χt e => by
      by_cases q : i = t
      · subst q; exact ⟨_, hg⟩
      · rw [List.getElem?_set_ne q] at e; exact ⟨_, e⟩
    obtain ⟨a1, b1⟩ := up j χ1 e1
    obtain ⟨a2, b2⟩ := up k' χ2 e2
    exact A.ow1 j k' a1 a2 b1 b2
/- a new object that no name has yet is changed -/
theorem Sat.loose {L : Addr} {o : HO} (A : Sat b F0 H0 Γ σ F H) (h3 : H0 L = none) (h2 : F L = none) (nf : ¬ isF o) (nm : ∀ (j : Nat) (ψ : MFact), Γ[j]? = some (.mu ψ) → σ[j]? ≠ some (some (.ref L))) (no : ∀ (j : Nat) (χ : OFact), Γ[j]? = some (.ow χ) → ∃ l' o' R, OwAt H0 Γ σ F H j χ l' o' R ∧ L ≠ l' ∧ R L = none) :
    Sat b F0 H0 Γ σ F (upd H L o) where
  gr := A.gr.chg h3 h2 nf
  nl := fun e a ob u d q => by
    by_cases z : a = L
    · subst z
      rw [upd_same] at q
      have q' := Option.some.inj q
      rw [q'] at nf
      exact nf trivial
    · rw [upd_ne z] at q; exact A.nl e a ob u d q
  len := A.len
  fz := A.fz
  mu := fun j ψ e => by
    obtain ⟨m, om, q1, q2, q3⟩ := A.mu j ψ e
    have z : m ≠ L := fun z => nm j ψ e (by rw [← z]; exact q1)
    exact ⟨m, om, q1, by rw [upd_ne z]; exact q2, q3⟩
  ne := A.ne
  ow := fun j χ e => by
    obtain ⟨l', o', R, w, n1, n2⟩ := no j χ e
    exact ⟨l', o', R, w.to rfl (fun a u b1 b2 b3 b4 => ⟨by
      have z : a ≠ L := fun z => by
        subst z
        rcases b4 with z | z
        · exact n1 z
        · exact z n2
      rw [upd_ne z]; exact b1, b2, b3⟩) (Same.refl _) fun k ψ m e1 e2 => .inl ⟨ψ, e1, e2⟩⟩
  ow1 := A.ow1
theorem OwAt.loose {i : Nat} {χ : OFact} {l L : Addr} {o o' : HO} {R : Hp} (w : OwAt H0 Γ σ F H i χ l o R) (n1 : L ≠ l) (n2 : R L = none) : OwAt H0 Γ σ F (upd H L o') i χ l o R :=
  w.to rfl (fun a u b1 b2 b3 b4 => ⟨by
      have z : a ≠ L := fun z => by
        subst z
        rcases b4 with z | z
        · exact n1 z
        · exact z n2
      rw [upd_ne z]; exact b1, b2, b3⟩) (Same.refl _) fun k ψ m e1 e2 => .inl ⟨ψ, e1, e2⟩
theorem Sat.open {i : Nat} {ψ : MFact} {χ : OFact} {l : Addr} (A : Sat b F0 H0 Γ σ F H) (hg : Γ[i]? = some (.mu ψ)) (hs : σ[i]? = some (some (.ref l))) (hno : ∀ e ∈ Γ, ∀ χ, e ≠ .ow χ) (hq : ∀ o, H l = some o → ψ.p o F → χ.p l o (fun _ => none) F) : Sat b F0 H0 (Γ.set i (.ow χ)) σ F H := by
  have hlen : i < Γ.length := (List.getElem?_eq_some_iff.mp hg).1
  have no : ∀ (j : Nat) (χ : OFact), Γ[j]? ≠ some (.ow χ) := fun j χ e => hno _ (List.mem_of_getElem? e) χ rfl
  have muback : ∀ (j : Nat) (ψ : MFact), (Γ.set i (.ow χ))[j]? = some (.mu ψ) → i ≠ j ∧ Γ[j]? = some (.mu ψ) := fun j ψ e => set_back e (fun z => nomatch z)
  obtain ⟨l', ob, h1, h2, h3, h4, h6⟩ := A.mu i _ hg
  have e5 : l = l' := by rw [hs] at h1; injection h1 with z; injection z with z; injection z
  subst e5
  refine ⟨A.gr, A.nl, by rw [List.length_set]; exact A.len, fun j φ e => A.fz j φ (set_back e (fun z => nomatch z)).2, fun j ψ e => A.mu j ψ (muback j ψ e).2, fun j k ψ1 ψ2 m e1 e2 e3 e4 => A.ne j k ψ1 ψ2 m (muback j _ e1).2 (muback k _ e2).2 e3 e4, fun j χ' e => ?_, fun j k χ1 χ2 e1 e2 => ?_⟩
  · by_cases q : i = j
    · subst q
      rw [List.getElem?_set_self hlen] at e
      cases e
      refine ⟨l, _, fun _ => none, h1, h2, h3, h4, rfl, fun _ _ z => (by cases z), hq _ h2 h6, fun k ψ m e1 e2 => ⟨fun z => ?_, rfl⟩⟩
      subst z
      obtain ⟨n, e1'⟩ := muback k ψ e1
      exact n (A.ne i k _ ψ m hg e1' h1 e2)
    · rw [List.getElem?_set_ne q] at e
      exact absurd e (no j χ')
  · by_cases q : i = j
    · by_cases q' : i = k
      · exact q.symm.trans q'
      · rw [List.getElem?_set_ne q'] at e2; exact absurd e2 (no k χ2)
    · rw [List.getElem?_set_ne q] at e1; exact absurd e1 (no j χ1)
end
/- ## contract -/
def SpO {A R T : Type} (b : Bool) (χ : T → OFact) (φs : Addr → A → List Fact) (m : A → T → Option (R × T)) (C : Cd R) : Sp := fun vs H Q _ =>
  ∃ l x s F r t o R0, FEx F H ∧ (b = true → NoLk H) ∧ Args (φs l x) vs F ∧ (H l = some o ∧ F l = none ∧ R0 l = none ∧ (∀ a u, R0 a = some u → H a = some u ∧ F a = none) ∧ (χ s).p l o R0 F) ∧ m x s = some (r, t) ∧
    ∀ v F' H' o' R', Grow F (rmR H l R0) F' H' → LentOk H l R0 F' H' (χ t) o' R' → C.rep r v F' → Q v H'
def qbo {α β T : Type} (m : Option (α × T)) (f : α → T → Option β) : Option β := m.bind fun a => f a.1 a.2
/- an expression that changes what is lent -/
def JOw (X : Cx) (b : Bool) (e : Expr) (Γ : List En) (i : Nat) (l : Addr) {T α : Type} (χ : T → OFact) (s : T) (C : Cd α) (m : Option (α × T)) : Prop :=
  ∀ F0 H0 σ F H, Sat b F0 H0 Γ σ F H → ∀ o R0, OwAt H0 Γ σ F H i (atA l (χ s)) l o R0 → ∀ r t, m = some (r, t) → ∀ Q : VK, (∀ v F' H' o' R', Grow F (rmR H l R0) F' H' → LentOk H l R0 F' H' (χ t) o' R' → C.rep r v F' → Q v H') → wE X e σ H Q
section
variable {X : Cx} {b : Bool} {Γ : List En} {i : Nat} {l : Addr} {T : Type} {χ : T → OFact} {s : T} {rest : List Stmt}
theorem je_own {x : Str} {pos : Pos} {χ1 : OFact} (hN : X.N[i]? = some x) (hv : Vis X.env.scope x) (hg : Γ[i]? = some (.ow (atA l χ1))) (hd : (x == ("__debug__" : Str)) = false := by decide) (hcd : (x == ("__classdict__" : Str)) = false := by decide) : JE X b (.Name x pos) Γ (fr (cAd l)) (some ()) := by
  intro F0 H0 σ F H A a ea Q q
  cases ea
  obtain ⟨l', o, R, w⟩ := A.ow i _ hg
  have e := w.2.2.2.2.2.2.1.1
  subst e
  exact wE_of (pe_var hN hv hd hcd) ⟨_, w.1, q _ F H (Grow.refl A.gr.fx) rfl⟩
theorem jo_call {x : Str} {p pos : Pos} {e : Expr} {es : List Expr} {ps : List Str} {j n : Nat} {A R : Type} {b' : Bool} {φs : Addr → A → List Fact} {φs' : A → List Fact} {m : A → T → Option (R × T)} {C : Cd R} {ma : Option A}
    (c : Cal X.prog X.w X.K X.mg X.base j x ps (SpO b' χ φs m C)) (hr : Room n X.A) (hg : Gl X x) (ha : JA X b (e :: es) Γ φs' ma) (hbb : j ≤ n ∧ (b' = true → b = true)) (hφ : φs' = φs l := by rfl) (hdb : (x == ("__debug__" : Str)) = false := by decide)
    (he : starEach (e :: es) X.env = (false, eval e X.env) :: starEach es X.env := by rfl) (hpl : (backTo pos (starEach es X.env)).any (·.1) = false := by rfl) :
    JOw X b (.Call (.Name x p) (e :: es) [] pos) Γ i l χ s C (ma.bind fun a => m a s) := by
  obtain ⟨f, fd, Fn, h1, h2, h3⟩ := c
  subst hφ
  intro F0 H0 σ F H A o R0 w r t em Q q
  obtain ⟨a, e1, e2⟩ := bind_some em
  refine wE_of (pe_call (E := E0) (dvs := []) Fn (hr.mono hbb.1) hg h1 h2 h3 .nil pass0 pa_w hdb he hpl) ?_
  refine ha F0 H0 σ F H A a e1 _ fun vs F1 H1 g1 r1 => ?_
  rw [List.append_nil]
  obtain ⟨w1, w2, w3, w4, w5, w6, w7, w8⟩ := w.grow (F0 := F0) g1
  exact ⟨l, a, s, F1, r, t, o, R0, g1.fx, fun z => (A.grow g1).nl (hbb.2 z), r1, ⟨w2, w3, w5, fun a u e => ⟨(w6 a u e).1, (w6 a u e).2.1⟩, w7.2⟩, e2, fun v F2 H2 o2 R2 g2 k r2 =>
    q v F2 H2 o2 R2 (g1.preR g2) ⟨k.hl, k.fl, k.rl, fun a u e => ⟨(k.rs a u e).1, (k.rs a u e).2.1, rmR_back g1 (k.rs a u e).2.2⟩, k.p⟩ r2⟩
theorem jb_exprO {S R' α : Type} {Γs : S → List En} {k : Rk R'} {e : Expr} {pos : Pos} {C : Cd α} {m : Option (α × T)} {f : α → T → Option (Out S R')} (hg : Γ[i]? = some (.ow (atA l (χ s)))) (he : JOw X b e Γ i l χ s C m) (hr : ∀ a t, JB X b rest (Γ.set i (.ow (atA l (χ t)))) Γs k (f a t)) (hs : swapsWith e none pos.line X.env = pure false := by rfl) :
    JB X b (.Expr e pos :: rest) Γ Γs k (qbo m f) := by
  intro F0 H0 σ F H A o ho D P
  obtain ⟨⟨a, t⟩, h1, h2⟩ := bind_some ho
  refine wS_of (pss_cons (ps_expr pe_w hs) pss_w) ?_
  obtain ⟨l', ob, R, w⟩ := A.ow i _ hg
  have e5 := w.2.2.2.2.2.2.1.1
  subst e5
  exact he F0 H0 σ F H A ob R w a t h1 _ fun v F' H' o' R' g q _ => hr a t F0 H0 _ F' H' (A.lentO hg w g q).1 o h2 D P
theorem jbx_exprO {W : WX} {S R' α : Type} {Γs : S → List En} {k : Rk R'} {e : Expr} {pos : Pos} {C : Cd α} {m : Option (α × T)} {f : α → T → Option (Out S (Ret R'))} (hg : Γ[i]? = some (.ow (atA l (χ s)))) (he : JOw X b e Γ i l χ s C m) (hr : ∀ a t, JBX X W b rest (Γ.set i (.ow (atA l (χ t)))) Γs k (f a t)) (hs : swapsWith e none pos.line X.env = pure false := by rfl) :
    JBX X W b (.Expr e pos :: rest) Γ Γs k (qbo m f) := by
  intro F0 H0 σ F H A o ho D P
  obtain ⟨⟨a, t⟩, h1, h2⟩ := bind_some ho
  refine wS_of (pss_cons (ps_expr pe_w hs) pss_w) ?_
  obtain ⟨l', ob, R, w⟩ := A.ow i _ hg
  have e5 := w.2.2.2.2.2.2.1.1
  subst e5
  exact he F0 H0 σ F H A ob R w a t h1 _ fun v F' H' o' R' g q _ => hr a t F0 H0 _ F' H' (A.lentO hg w g q).1 o h2 D P
theorem jb_openA {S R' : Type} {Γs : S → List En} {k : Rk R'} {ψ : MFact} {χ1 : OFact} {sts : List Stmt} {m : Option (Out S R')} (hq : ∀ l o F, ψ.p o F → χ1.p l o (fun _ => none) F) (hg : Γ[i]? = some (.mu ψ)) (hno : ∀ e ∈ Γ, ∀ χ, e ≠ .ow χ) (h : ∀ l, JB X b sts (Γ.set i (.ow (atA l χ1))) Γs k m) : JB X b sts Γ Γs k m := by
  intro F0 H0 σ F H A o ho D P
  obtain ⟨l, ob, h1, h2, h3, h4, h6⟩ := A.mu i _ hg
  exact h l F0 H0 σ F H (A.open hg h1 hno fun o _ e => ⟨rfl, hq _ _ _ e⟩) o ho D P
theorem jbx_openA {W : WX} {S R' : Type} {Γs : S → List En} {k : Rk R'} {ψ : MFact} {χ1 : OFact} {sts : List Stmt} {m : Option (Out S (Ret R'))} (hq : ∀ l o F, ψ.p o F → χ1.p l o (fun _ => none) F) (hg : Γ[i]? = some (.mu ψ)) (hno : ∀ e ∈ Γ, ∀ χ, e ≠ .ow χ) (h : ∀ l, JBX X W b sts (Γ.set i (.ow (atA l χ1))) Γs k m) : JBX X W b sts Γ Γs k m := by
  intro F0 H0 σ F H A o ho D P
  obtain ⟨l, ob, h1, h2, h3, h4, h6⟩ := A.mu i _ hg
  exact h l F0 H0 σ F H (A.open hg h1 hno fun o _ e => ⟨rfl, hq _ _ _ e⟩) o ho D P
theorem qoM {ψ : MFact} : ∀ (l : Addr) o F, ψ.p o F → (oM ψ).p l o (fun _ => none) F := fun _ _ _ h => ⟨fun _ => rfl, h⟩
theorem jbx_frzO {W : WX} {S R' : Type} {Γs : S → List En} {k : Rk R'} {χ1 : OFact} {φ : Fact} {sts : List Stmt} {m : Option (Out S (Ret R'))} (hg : Γ[i]? = some (.ow χ1)) (hq : ∀ l o R F, F l = none → R l = none → (∀ a u, R a = some u → F a = none) → χ1.p l o R F → φ.p (.ref l) (uni F R l o)) (h : JBX X W b sts (Γ.set i (.fz φ)) Γs k m) : JBX X W b sts Γ Γs k m := by
  intro F0 H0 σ F H A o ho D P
  obtain ⟨l, ob, R, _, _, A'⟩ := A.frzO hg hq
  exact h F0 H0 σ _ H A' o ho D P
theorem qAt {l0 : Addr} {χ1 : OFact} {φ : Fact} (hq : ∀ l o R F, F l = none → R l = none → (∀ a u, R a = some u → F a = none) → χ1.p l o R F → φ.p (.ref l) (uni F R l o)) : ∀ l o R F, F l = none → R l = none → (∀ a u, R a = some u → F a = none) → (atA l0 χ1).p l o R F → φ.p (.ref l) (uni F R l o) :=
  fun l o R F h1 h2 h3 h4 => hq l o R F h1 h2 h3 h4.2
theorem qLo {α : Type} {C : Cd α} {xs : List α} : ∀ l o R F, F l = none → R l = none → (∀ a u, R a = some u → F a = none) → (oM (mL C xs)).p l o R F → ((cL C).at xs).p (.ref l) (uni F R l o) := by
  rintro l o R F h1 h2 h3 ⟨_, vs, rfl, h4⟩
  exact ⟨l, vs, rfl, uni_l, paired_mono h4 fun _ _ r => C.mono _ _ _ _ (uni_same h1 h3) r⟩
/- ## the def itself -/
def rkO {R : Type} (l : Addr) (χ : T → OFact) (C : Cd R) : Rk (R × T) where
  p := fun a v H F' H' => C.rep a.1 v F' ∧ H l = none ∧ ∃ (o : HO) (Rh : Hp), H' l = some o ∧ F' l = none ∧ Rh l = none ∧ (∀ x u, Rh x = some u → H' x = some u ∧ F' x = none ∧ H x = none) ∧ (χ a.2).p l o Rh F'
  back := fun a v H H1 F' H' s ⟨h0, h2, o, Rh, h3, h4, h5, h6, h7⟩ => ⟨h0, s.free h2, o, Rh, h3, h4, h5, fun m u e => ⟨(h6 m u e).1, (h6 m u e).2.1, s.free (h6 m u e).2.2⟩, h7⟩
  fwd := fun a v H F' H' F'' H'' s g ⟨h0, h2, o, Rh, h3, h4, h5, h6, h7⟩ => ⟨C.mono _ _ _ _ g.fs h0, h2, o, Rh, g.hs _ _ h3, g.stays h4 h3, h5, fun m u e => ⟨g.hs _ _ (h6 m u e).1, g.stays (h6 m u e).2.1 (h6 m u e).1, (h6 m u e).2.2⟩, (χ a.2).mono _ _ _ _ _ g.fs h7⟩
  unl := fun a v H0 F' H' d x u ⟨h0, h2, o, Rh, h3, h4, h5, h6, h7⟩ => by
    have ne : ∀ m, (upd H0 d x) m = none → m ≠ d := fun m h z => by rw [z, upd_same] at h; cases h
    have nl := ne l h2
    rw [upd_ne nl] at h2
    refine ⟨h0, h2, o, Rh, by rw [upd_ne nl]; exact h3, h4, h5, fun m w e => ?_, h7⟩
    obtain ⟨y1, y2, y3⟩ := h6 m w e
    have nm := ne m y3
    rw [upd_ne nm] at y3
    exact ⟨by rw [upd_ne nm]; exact y1, y2, y3⟩
theorem jb_retA {S R : Type} {Γs : S → List En} {e : Expr} {pos : Pos} {C : Cd R} {m : Option R} (hg : Γ[i]? = some (.ow (atA l (χ s)))) (h : JE X b e Γ (fr C) m) : JB X b (.Return (some e) pos :: rest) Γ Γs (rkO l χ C) (m.bind fun a => some (.rt (a, s))) := by
  intro F0 H0 σ F H A o ho D P
  obtain ⟨a, h1, h2⟩ := bind_some ho
  cases h2
  refine wS_of (pss_cons (ps_ret pe_w) (pss_never (sts := rest))) ?_
  refine h F0 H0 σ F H A a h1 _ fun v F' H' g q => ?_
  obtain ⟨l', ob, R, w1, w2, w3, w4, w5, w6, w7, w8⟩ := (A.grow g).ow i _ hg
  have e5 := w7.1
  subst e5
  exact P v F' H' (A.gr.trans g) ⟨q, w4, ob, R, w2, w3, w5, w6, w7.2⟩
end
def outMR {R T : Type} : Out T (R × T) → Option (R × T)
  | .nx _ => none
  | .rt r => some r
def outMN {T : Type} : Out T (Unit × T) → Option (Unit × T)
  | .nx t => some ((), t)
  | .rt r => some r
section
variable {P : Program} {w : World} {K : PySem.W.Frag} {mg : Str → Option Value} {base : Heap}
def endO {T : Type} (i n : Nat) (l : Addr) (χ : T → OFact) (t : T) : List En := (List.replicate n .no).set i (.ow (atA l (χ t)))
theorem fn_o {x qual : Str} {st : Stmt} {f : Addr} {fd : FuncData} {N ps : List Str} {j i : Nat} {A R T : Type} {b : Bool} {χ : T → OFact} {φs : Addr → A → List Fact} {m : A → T → Option (R × T)} {mo : A → T → Option (Out T (R × T))} {C : Cd R} (hmo : ∀ x s, m x s = (mo x s).bind outMR) (Fu : Fun K x qual st f fd) (S : FnScope N ps (defScope st)) (hl : ∀ l x, (φs l x).length = ps.length)
    (hp : ∀ l x, (φs l x)[i]? = some ((cAd l).at ()))
    (body : ∀ (X : Cx) (l : Addr) (x : A) (s : T), (∃ cdv Ar outer s H E, X = (cxOf CX0 P w K mg base N qual (defScope st) f cdv Ar outer s H E).nox) → Room j X.A → JB X b (defBody st) ((env0 (φs l x) (N.length - ps.length)).set i (.ow (atA l (χ s)))) (endO i N.length l χ) (rkO l χ C) (mo x s)) :
    FnOk P w K mg base CX0 (j + 1) f fd ps (SpO b χ φs m C) := by
  refine Fu.ok S (fun vs H Q E h => ?_) (fun cdv Ar outer s H vs Q E hr h => ?_)
  · obtain ⟨l, x, s, F, r, t, o, R0, _, _, h, _⟩ := h
    exact (Paired.length h).symm.trans (hl l x)
  · obtain ⟨l, x, s', F, r, t, o, R0, fx, n, h, ⟨h1, h2, h3, h4, h5⟩, hm, q⟩ := h
    rw [hmo] at hm
    obtain ⟨o1, hm1, hm2⟩ := bind_some hm
    refine ⟨_, pss_w, ?_⟩
    have hpl : ps.length ≤ N.length := by have := congrArg List.length S.pre; rw [List.length_take] at this; omega
    have A := sat0 (N := N) fx n h (by rw [hl]; exact hpl)
    rw [hl l x] at A
    have hi' : i < (φs l x).length := (List.getElem?_eq_some_iff.mp (hp l x)).1
    have ei : (env0 (φs l x) (N.length - ps.length))[i]? = some (.fz ((cAd l).at ())) := by
      unfold env0
      rw [List.getElem?_append_left (by simpa using hi'), List.getElem?_map, hp l x]; rfl
    obtain ⟨v, hv, hv2⟩ := A.fz i _ ei
    have hv3 : v = .ref l := hv2
    subst hv3
    have A2 := A.lendO (χ := χ s') (List.getElem?_eq_some_iff.mp ei).1 (fun j ψ => env0_mu) (fun j χ => env0_ow) hv h1 h2 h3 h4 h5
    refine body _ l x s' ⟨cdv, Ar, outer, s, H, E, rfl⟩ hr F (rmR H l R0) _ F H A2 o1 hm1 _ ?_
    cases o1 with
    | nx t' => cases hm2
    | rt a =>
      cases hm2
      exact fun v F' H' g ⟨c0, c1, o', R', c2, c3, c4, c5, c6⟩ => q v F' H' o' R' g ⟨c2, c3, c4, c5, c6⟩ c0
theorem fn_oN {x qual : Str} {st : Stmt} {f : Addr} {fd : FuncData} {N ps : List Str} {j i : Nat} {A T : Type} {b : Bool} {χ : T → OFact} {φs : Addr → A → List Fact} {m : A → T → Option (Unit × T)} {mo : A → T → Option (Out T (Unit × T))} (hmo : ∀ x s, m x s = (mo x s).bind outMN) (Fu : Fun K x qual st f fd) (S : FnScope N ps (defScope st)) (hl : ∀ l x, (φs l x).length = ps.length)
    (hp : ∀ l x, (φs l x)[i]? = some ((cAd l).at ()))
    (body : ∀ (X : Cx) (l : Addr) (x : A) (s : T), (∃ cdv Ar outer s H E, X = (cxOf CX0 P w K mg base N qual (defScope st) f cdv Ar outer s H E).nox) → Room j X.A → JB X b (defBody st) ((env0 (φs l x) (N.length - ps.length)).set i (.ow (atA l (χ s)))) (endO i N.length l χ) (rkO l χ cN) (mo x s)) :
    FnOk P w K mg base CX0 (j + 1) f fd ps (SpO b χ φs m cN) := by
  refine Fu.ok S (fun vs H Q E h => ?_) (fun cdv Ar outer s H vs Q E hr h => ?_)
  · obtain ⟨l, x, s, F, r, t, o, R0, _, _, h, _⟩ := h
    exact (Paired.length h).symm.trans (hl l x)
  · obtain ⟨l, x, s', F, r, t, o, R0, fx, n, h, ⟨h1, h2, h3, h4, h5⟩, hm, q⟩ := h
    rw [hmo] at hm
    obtain ⟨o1, hm1, hm2⟩ := bind_some hm
    refine ⟨_, pss_w, ?_⟩
    have hpl : ps.length ≤ N.length := by have := congrArg List.length S.pre; rw [List.length_take] at this; omega
    have A := sat0 (N := N) fx n h (by rw [hl]; exact hpl)
    rw [hl l x] at A
    have hi' : i < (φs l x).length := (List.getElem?_eq_some_iff.mp (hp l x)).1
    have ei : (env0 (φs l x) (N.length - ps.length))[i]? = some (.fz ((cAd l).at ())) := by
      unfold env0
      rw [List.getElem?_append_left (by simpa using hi'), List.getElem?_map, hp l x]; rfl
    obtain ⟨v, hv, hv2⟩ := A.fz i _ ei
    have hv3 : v = .ref l := hv2
    subst hv3
    have A2 := A.lendO (χ := χ s') (List.getElem?_eq_some_iff.mp ei).1 (fun j ψ => env0_mu) (fun j χ => env0_ow) hv h1 h2 h3 h4 h5
    refine body _ l x s' ⟨cdv, Ar, outer, s, H, E, rfl⟩ hr F (rmR H l R0) _ F H A2 o1 hm1 _ ?_
    cases o1 with
    | nx t' =>
      cases hm2
      intro σ' F' H' A'
      have hiN : i < N.length := by rw [hl] at hi'; exact Nat.lt_of_lt_of_le hi' hpl
      obtain ⟨l', o', R', w1, w2, w3, w4, w5, w6, w7, w8⟩ := A'.ow i (atA l (χ t)) (by unfold endO; rw [List.getElem?_set_self (by rw [List.length_replicate]; exact hiN)])
      have e5 := w7.1
      subst e5
      exact q _ F' H' o' R' A'.gr ⟨w2, w3, w5, w6, w7.2⟩ rfl
    | rt a =>
      cases hm2
      exact fun v F' H' g ⟨c0, c1, o', R', c2, c3, c4, c5, c6⟩ => q v F' H' o' R' g ⟨c2, c3, c4, c5, c6⟩ c0
theorem fn_noneO {j : Nat} {f : Addr} {fd : FuncData} {ps : List Str} {A R T : Type} {b : Bool} {χ : T → OFact} {φs : Addr → A → List Fact} {m : A → T → Option (R × T)} {C : Cd R} (hm : ∀ x s, m x s = none) : FnOk P w K mg base CX0 j f fd ps (SpO b χ φs m C) :=
  ⟨fun vs H Q E h => (by obtain ⟨l, x, s, F, r, t, o, R0, _, _, _, _, h, _⟩ := h; rw [hm x s] at h; cases h), fun A outer s H args us vs Q E _ _ _ _ h => (by obtain ⟨l, x, s, F, r, t, o, R0, _, _, _, _, h, _⟩ := h; rw [hm x s] at h; cases h)⟩
end
/- ## changes of a lent list -/
section
variable {X : Cx} {b : Bool} {Γ : List En} {i : Nat} {l : Addr} {rest : List Stmt} {S R' : Type} {Γs : S → List En} {k : Rk R'}
theorem jb_appA {x : Str} {p apos cpos pos : Pos} {e : Expr} {α : Type} {C : Cd α} {xs : List α} {m : Option α} {f : List α → Option (Out S R')} (hN : X.N[i]? = some x) (hv : Vis X.env.scope x) (hg : Γ[i]? = some (.ow (atA l (oM (mL C xs))))) (he : JE X b e Γ (fr C) m)
    (hr : ∀ ys, JB X b rest (Γ.set i (.ow (atA l (oM (mL C ys))))) Γs k (f ys)) (hbase : attributeBase (.Name x p) "append" X.env (eval (.Name x p) X.env) = eval (.Name x p) X.env := by rfl)
    (hfew : ((backTo cpos (starEach (e :: []) X.env)).all (fun x => !x.1) && (backToKw cpos (keywordEach [] X.env)).all (fun x => x.1.isSome) && decide ((e :: []).length + ([] : List Keyword).length + (if ([] : List Keyword).isEmpty then 0 else 1) < 30)) = true := by rfl)
    (hline : (apos.endLine == cpos.line) = true := by rfl) (hs : starEach [e] X.env = (false, eval e X.env) :: starEach [] X.env := by rfl) (hsw : swapsWith (.Call (.Attribute (.Name x p) "append" apos) [e] [] cpos) none pos.line X.env = pure false := by rfl)
    (hd : (x == ("__debug__" : Str)) = false := by decide) (hcd : (x == ("__classdict__" : Str)) = false := by decide) :
    JB X b (.Expr (.Call (.Attribute (.Name x p) "append" apos) [e] [] cpos) pos :: rest) Γ Γs k ((m.bind fun a => pApp xs a).bind f) := by
  intro F0 H0 σ F H A o ho D P
  obtain ⟨ys, e0, e2⟩ := bind_some ho
  obtain ⟨a, e1, e3⟩ := bind_some e0
  unfold pApp at e3
  by_cases c : xs.length < 1000000
  case neg => rw [if_neg c] at e3; cases e3
  rw [if_pos c] at e3
  cases e3
  refine wS_of (pss_cons (ps_expr (pe_bm PySem.F.plainAttrs_list PySem.F.slot_list_append PySem.F.type_list_append mt_append (pe_var hN hv hd hcd) (pa_cons pe_w pa_nil hs) hbase hfew hline hs rfl) hsw) pss_w) ?_
  obtain ⟨l', ob, R, w⟩ := A.ow i _ hg
  obtain ⟨w1, w2, w3, w4, w5, w6, ⟨rfl, wR, vs, rfl, h6⟩, w8⟩ := id w
  refine ⟨_, w1, .inl ⟨rfl, vs, SqL.of w2⟩, ?_⟩
  refine he F0 H0 σ F H A a e1 _ fun v F' H' g r => ?_
  have wg := w.grow (F0 := F0) g
  refine ⟨l', vs, v, rfl, rfl, wg.2.1, by rw [← paired_len h6]; exact Nat.lt_trans c (by decide), ?_⟩
  exact hr _ F0 H0 σ F' _ ((A.grow g).chgO (χ' := atA l' (oM (mL C (xs ++ [a])))) (o' := .lst (vs ++ [v])) (R' := R) hg wg (fun a' h1 _ => by rw [upd_ne h1]) upd_same w5 (fun a' u e => by rw [wR a'] at e; cases e) ⟨rfl, wR, _, rfl, paired_app (paired_mono h6 fun _ _ q => C.mono _ _ _ _ g.fs q) (.cons r .nil)⟩) o e2 D P
theorem jb_setIA {x : Str} {p pos pos' : Pos} {e kx : Expr} {α : Type} {C : Cd α} {xs : List α} {m : Option α} {mk : Option Int} {f : List α → Option (Out S R')} (hN : X.N[i]? = some x) (hv : Vis X.env.scope x) (hg : Γ[i]? = some (.ow (atA l (oM (mL C xs)))))
    (he : JE X b e Γ (fr C) m) (hk : JE X b kx Γ (fr cI) mk) (hr : ∀ ys, JB X b rest (Γ.set i (.ow (atA l (oM (mL C ys))))) Γs k (f ys)) (hs : swapsWithSole [.Subscript (.Name x p) kx pos'] e pos.line X.env = pure false := by rfl) (hw : swappedStores [.Subscript (.Name x p) kx pos'] e X.env = pure none := by rfl)
    (h1' : (assignEach [.Subscript (.Name x p) kx pos'] X.env).map (·.2) = [assign (.Subscript (.Name x p) kx pos') X.env] := by rfl)
    (ha : ∀ v, assign (.Subscript (.Name x p) kx pos') X.env v = (do
      let ov ← holding [v] (eval (.Name x p) X.env)
      let iv ← holding [v, ov] (eval kx X.env)
      standAt pos'
      holding [v, ov, iv] (setItem ov iv v)
      release [v, ov, iv] []) := by intro _; rfl)
    (hd : (x == ("__debug__" : Str)) = false := by decide) (hcd : (x == ("__classdict__" : Str)) = false := by decide) :
    JB X b (.Assign [.Subscript (.Name x p) kx pos'] e pos :: rest) Γ Γs k ((m.bind fun a => mk.bind fun i => setI xs i a).bind f) := by
  intro F0 H0 σ F H A o ho D P
  obtain ⟨ys, e0, e2⟩ := bind_some ho
  obtain ⟨a, e1, e3⟩ := bind_some e0
  obtain ⟨kk, e4, e5⟩ := bind_some e3
  obtain ⟨j, e6, e7⟩ := bind_some e5
  cases e7
  refine wS_of (pss_cons (ps_asg pe_w (pg_sub (pe_var hN hv hd hcd) pe_w set_list ha) hs hw h1') pss_w) ?_
  obtain ⟨l', ob, R, w⟩ := A.ow i _ hg
  obtain ⟨w1, w2, w3, w4, w5, w6, ⟨rfl, wR, vs, rfl, h6⟩, w8⟩ := id w
  refine he F0 H0 σ F H A a e1 _ fun v F1 H1 g1 r1 => ?_
  refine ⟨_, w1, ?_⟩
  refine hk F0 H0 σ F1 H1 (A.grow g1) kk e4 _ fun w0 F2 H2 g2 r2 => ?_
  cases (show w0 = .int kk from r2)
  have g := g1.trans g2
  have wg := w.grow (F0 := F0) g
  refine ⟨l', vs, kk, j, rfl, rfl, wg.2.1, by rw [← Paired.length h6]; exact e6, ?_⟩
  exact hr _ F0 H0 σ F2 _ ((A.grow g).chgO (χ' := atA l' (oM (mL C (xs.set j a)))) (o' := .lst (vs.set j v)) (R' := R) hg wg (fun a' h1 _ => by rw [upd_ne h1]) upd_same w5 (fun a' u e => by rw [wR a'] at e; cases e) ⟨rfl, wR, _, rfl, paired_set (G := fun a v => C.rep a v F2) (C.mono _ _ _ _ g2.fs r1) j (paired_mono h6 fun _ _ q => C.mono _ _ _ _ g.fs q)⟩) o e2 D P
end
/- ## y = [a call that lends, for x in ..] -/
def lcS {α β T : Type} (f : α → T → Option (β × T)) : List α → T → Option (List β × T)
  | [], t => some ([], t)
  | x :: xs, t => (f x t).bind fun r => (lcS f xs r.2).bind fun q => some (r.1 :: q.1, q.2)
def pManyS {α T : Type} (x : List α × T) : Option (List α × T) := if x.1.length ≤ 10000 then some x else none
section
variable {X : Cx} {b : Bool} {Γ : List En} {fi : Nat} {l : Addr} {T : Type} {χ : T → OFact} {s : T} {rest : List Stmt} {S R' : Type} {Γs : S → List En} {k : Rk R'}
theorem jb_setLcO {i j : Nat} {x y : Str} {px py : Pos} {elt iter : Expr} {scope : Scope} {pos spos : Pos} {α β : Type} {C : Cd α} {D : Cd β} {m : Option (List α)} {f : α → T → Option (β × T)} {g : List β → T → Option (Out S R')} (hc : X.calm = true) (hN : X.N.Nodup)
    (hy : X.N[j]? = some y) (hyl : X.env.scope.names.lookup y = some .local) (hsw : swapsWith (.ListComp elt [⟨.Name x px, iter, [], 0⟩] scope pos) (some (.Name y py)) spos.line X.env = pure true) (hg0 : Γ[fi]? = some (.ow (atA l (χ s)))) (hfi : fi ≠ i)
    (hit : JI X b (.Name x px) iter Γ C m) (ok : BlkOk X.N X.env.scope scope [(x, i)]) (hg : ∀ s H1 C1 cl fp, PG (X.blk s H1 scope (compEnvC scope cl C1 X.env) fp) (.Name x px) (gName i))
    (he : ∀ s H1 C1 cl fp a t, JOw (X.blk s H1 scope (compEnvC scope cl C1 X.env) fp) b elt (((Γ.set fi (.ow (atA l (χ t)))).set i .no).set i (.fz (C.at a))) fi l χ t D (f a t)) (hr : ∀ a t, JB X b rest ((Γ.set fi (.ow (atA l (χ t)))).set j (.mu (mL D a))) Γs k (g a t)) (hs : ∀ x, foldedSetIterable iter X.env x = pure x := by intro _; rfl) :
    JB X b (.Assign [.Name y py] (.ListComp elt [⟨.Name x px, iter, [], 0⟩] scope pos) spos :: rest) Γ Γs k (qbo (m.bind fun xs => (lcS f xs s).bind pManyS) g) := by
  intro F0 H0 σ F H A o ho E P
  obtain ⟨⟨ys, te⟩, e1, e2⟩ := bind_some ho
  obtain ⟨xs, e3, e4⟩ := bind_some e1
  obtain ⟨⟨zs, t1⟩, e5, e6⟩ := bind_some e4
  unfold pManyS at e6
  by_cases c : zs.length ≤ 10000
  case neg => rw [if_neg c] at e6; cases e6
  rw [if_pos c] at e6
  cases e6
  refine wS_of (pss_cons (ps_setLc (own := [(x, i)]) (tt := wTb X scope []) (te := wEb X scope elt) hc hN hy hyl hsw pi_w ok hg (fun s H1 C1 cl fp => ⟨fun pins s' σ H Q I h => pts_w.run pins s' σ H Q I (h s H1 C1 cl fp)⟩) (fun s H1 C1 cl fp => ⟨fun pins s' σ H Q I h => pe_w.run pins s' σ H Q I (h s H1 C1 cl fp)⟩) hs) pss_w) ?_
  show tLc (wI X (.Name x px) iter) (gName i) (wTb X scope []) (wEb X scope elt) [i] σ H (fun v H1 => wS X rest E (σ.set j (some v)) H1)
  obtain ⟨l', ob, R, w⟩ := A.ow fi _ hg0
  have e5' := w.2.2.2.2.2.2.1.1
  subst e5'
  refine hit F0 H0 σ F H A xs e3 _ fun J F1 H1 vs g1 it pr => ?_
  intro L hL
  obtain ⟨G, Y, wk, hG, hY⟩ := it.ok
  have hl : xs.length = vs.length := paired_len pr
  have A1 := A.grow g1
  have w1 := w.grow (F0 := F0) g1
  have hfiL : fi < Γ.length := (List.getElem?_eq_some_iff.mp hg0).1
  have hLl : L ≠ l' := fun z => by have := w1.2.1; rw [← z, hL] at this; cases this
  have hL0 : H0 L = none := A1.gr.hs.free hL
  have g0 : Grow F1 H1 F1 (upd H1 L (.lst [])) := grow_new g1.fx hL fun z => z
  have sg : Γ.set fi (.ow (atA l' (χ s))) = Γ := by
    obtain ⟨h1, h2⟩ := List.getElem?_eq_some_iff.mp hg0
    rw [← h2, List.set_getElem_self]
  have RL0 : R L = none := by
    cases z : R L with
    | none => rfl
    | some u => have := (w1.2.2.2.2.2.1 L u z).1; rw [hL] at this; cases this
  refine lc_it wk (fun n Hn => ∃ F2 acc av t o2 R2, Sat b F0 H0 (Γ.set fi (.ow (atA l' (χ t)))) σ F2 Hn ∧ OwAt H0 (Γ.set fi (.ow (atA l' (χ t)))) σ F2 Hn fi (atA l' (χ t)) l' o2 R2 ∧ R2 L = none ∧ Same F1 F2 ∧ Hn L = some (.lst av) ∧ F2 L = none ∧ Paired (fun a v => D.rep a v F2) acc av ∧ ∃ r, lcS f (xs.drop n) t = some (r, te) ∧ acc ++ r = ys) ?_ ?_ ?_ ?_
  · refine ⟨F1, [], [], s, ob, R, ?_, ?_, RL0, Same.refl _, upd_same, g1.fx.emp hL, .nil, ys, e5, rfl⟩
    · rw [sg]; exact A1.grow g0
    · rw [sg]; exact w1.grow (F0 := F0) g0
  · rintro n Hn _ ⟨F2, acc, av, t, o2, R2, A2, _, _, s2, _⟩
    exact hG Hn fun a u e => A2.gr.fx a u (s2 a u e)
  · rintro n v Hn H' hn ⟨F2, acc, av, t, o2, R2, A2, w2, rl2, s2, hD, hF, pa, r, er, ea⟩ y
    obtain ⟨rfl, hv⟩ := hY n Hn v H' (fun a u e => A2.gr.fx a u (s2 a u e)) hn y
    obtain ⟨a, ha, ra⟩ := paired_ix pr hv
    have hd : xs.drop n = a :: xs.drop (n + 1) := by
      obtain ⟨q1, q2⟩ := List.getElem?_eq_some_iff.mp ha
      rw [List.drop_eq_getElem_cons q1, q2]
    rw [hd] at er
    obtain ⟨⟨z, t3⟩, k3, k4⟩ := bind_some (show (f a t).bind (fun r => (lcS f (xs.drop (n + 1)) r.2).bind fun q => some (r.1 :: q.1, q.2)) = some (r, te) from er)
    obtain ⟨⟨r', t4⟩, k5, k6⟩ := bind_some k4
    cases k6
    have AA := (A2.wipe (i := i)).put (i := i) (φ := C.at a) (C.mono _ _ _ _ s2 ra)
    refine ⟨?_, fun s5 H5 C5 cl fp => ?_⟩
    · show ((σ.set i none).set i (some v)).set i none = σ.set i none
      rw [List.set_set, List.set_set]
    refine ⟨_, pts_nil, ?_⟩
    unfold tYes; dsimp only
    rw [if_pos rfl]
    intro s6 H6 C6 cl6 fp6
    have gi : (((Γ.set fi (.ow (atA l' (χ t)))).set i .no).set i (.fz (C.at a)))[fi]? = some (.ow (atA l' (χ t))) := by
      rw [List.getElem?_set_ne (Ne.symm hfi), List.getElem?_set_ne (Ne.symm hfi), List.getElem?_set_self hfiL]
    have si : ((σ.set i none).set i (some v))[fi]? = σ[fi]? := by rw [List.getElem?_set_ne (Ne.symm hfi), List.getElem?_set_ne (Ne.symm hfi)]
    have mb : ∀ (j : Nat) (ψ : MFact), (((Γ.set fi (.ow (atA l' (χ t)))).set i .no).set i (.fz (C.at a)))[j]? = some (.mu ψ) → (Γ.set fi (.ow (atA l' (χ t))))[j]? = some (.mu ψ) ∧ ((σ.set i none).set i (some v))[j]? = σ[j]? := fun j ψ e => by
      obtain ⟨n1, e1⟩ := set_back e (fun z => nomatch z)
      obtain ⟨n2, e2⟩ := set_back e1 (fun z => nomatch z)
      exact ⟨e2, by rw [List.getElem?_set_ne n1, List.getElem?_set_ne n1]⟩
    have w4 : OwAt H0 (((Γ.set fi (.ow (atA l' (χ t)))).set i .no).set i (.fz (C.at a))) ((σ.set i none).set i (some v)) F2 H' fi (atA l' (χ t)) l' o2 R2 := by
      obtain ⟨v1, v2, v3, v4, v5, v6, v7, v8⟩ := w2
      exact ⟨by rw [si]; exact v1, v2, v3, v4, v5, v6, v7, fun j ψ m e1 e2 => by
        obtain ⟨f1, f2⟩ := mb j ψ e1
        exact v8 j ψ m f1 (by rw [← f2]; exact e2)⟩
    refine he s6 H6 C6 cl6 fp6 a t F0 H0 _ F2 _ AA o2 R2 w4 z t3 k3 _ fun zv F4 H4 o4 R4 g4 q4 r4 => ?_
    have hLR : rmR H' l' R2 L = some (.lst av) := by rw [rmR_ne hLl rl2]; exact hD
    have d4 : H4 L = some (.lst av) := g4.hs _ _ hLR
    have f4 : F4 L = none := g4.stays hF hLR
    have rl4 : R4 L = none := by
      cases z : R4 L with
      | none => rfl
      | some u => rw [(q4.rs L u z).2.2] at hLR; cases hLR
    have hg2 : (Γ.set fi (.ow (atA l' (χ t))))[fi]? = some (.ow (atA l' (χ t))) := List.getElem?_set_self hfiL
    obtain ⟨A5, w5⟩ := A2.lentO hg2 w2 g4 q4
    rw [List.set_set] at A5 w5
    refine ⟨av, d4, ?_, F4, acc ++ [z], av ++ [zv], t3, o4, R4, ?_, ?_, rl4, s2.trans g4.fs, upd_same, f4, paired_app (paired_mono pa fun _ _ h => D.mono _ _ _ _ g4.fs h) (.cons r4 .nil), r', k5, ?_⟩
    · rw [← paired_len pa]
      have : acc.length ≤ ys.length := by rw [← ea]; simp
      exact Nat.lt_of_le_of_lt (Nat.le_trans this c) (by decide)
    · refine A5.loose hL0 f4 (fun z => z) (fun j' ψ' e z => ?_) fun j' χ' e => ?_
      · obtain ⟨m', om, q1, q2, _⟩ := A1.mu j' ψ' (set_back e (fun z => nomatch z)).2
        rw [z] at q1
        have e5 : L = m' := by injection q1 with z; injection z with z; injection z
        subst e5
        rw [hL] at q2; cases q2
      · have : j' = fi := A5.ow1 j' fi χ' _ e (List.getElem?_set_self hfiL)
        subst this
        rw [List.getElem?_set_self hfiL] at e
        cases e
        exact ⟨l', o4, R4, w5, hLl, rl4⟩
    · exact w5.loose hLl rl4
    · rw [← ea]; simp
  · rintro Hn ⟨F2, acc, av, t, o2, R2, A2, w2, rl2, s2, hD, hF, pa, r, er, ea⟩
    rw [← hl, List.drop_length] at er
    cases er
    rw [List.append_nil] at ea
    subst ea
    refine hr acc te F0 H0 _ F2 Hn (A2.own hD hF hL0 ⟨av, rfl, pa⟩ (fun j' ψ' _ e z => ?_) fun j' χ' e => ?_) o e2 E P
    · have e' := (set_back e (fun z => nomatch z)).2
      obtain ⟨m', om, q1, q2, _⟩ := A1.mu j' ψ' e'
      rw [z] at q1
      have e5 : L = m' := by injection q1 with z; injection z with z; injection z
      subst e5
      rw [hL] at q2; cases q2
    · have : j' = fi := A2.ow1 j' fi χ' _ e (List.getElem?_set_self hfiL)
      subst this
      rw [List.getElem?_set_self hfiL] at e
      cases e
      exact ⟨l', o2, R2, w2, hLl, rl2⟩
end
end Cw
/- CwExp22: a lent list of pairs [wish, numbers] that are lists of one's own. -/
namespace Cw
open PySem PySem.Spec L2
open PyProof.Rows hiding St
def cWL : Cd (Wish × List Int) where
  rep := fun x v F => ∃ p vw vl, v = .ref p ∧ F p = some (.lst [vw, vl]) ∧ cW.rep x.1 vw F ∧ (cL cI).rep x.2 vl F
  mono := fun x v F F' s ⟨p, vw, vl, h1, h2, h3, h4⟩ => ⟨p, vw, vl, h1, s _ _ h2, cW.mono _ _ _ _ s h3, (cL cI).mono _ _ _ _ s h4⟩
theorem fWL0 : ∀ x v F, cWL.rep x v F → ∃ p vs w, v = .ref p ∧ F p = some (.lst vs) ∧ atI vs 0 = some w ∧ cW.rep x.1 w F := fun _ _ _ ⟨p, u, w, h1, h2, h3, _⟩ => ⟨p, [u, w], u, h1, h2, rfl, h3⟩
theorem fWL1 : ∀ x v F, cWL.rep x v F → ∃ p vs w, v = .ref p ∧ F p = some (.lst vs) ∧ atI vs 1 = some w ∧ (cL cI).rep x.2 w F := fun _ _ _ ⟨p, u, w, h1, h2, _, h4⟩ => ⟨p, [u, w], w, h1, h2, rfl, h4⟩
theorem je_fldL {X : Cx} {b : Bool} {Γ : List En} {a : Expr} {j : Int} {jj : Nat} {pos p2 : Pos} {α β : Type} {C : Cd α} {D : Cd β} {f : α → β} {m : Option α} (hC : ∀ x v F, C.rep x v F → ∃ p vs w, v = .ref p ∧ F p = some (.lst vs) ∧ atI vs j = some w ∧ D.rep (f x) w F)
    (ha : JE X b a Γ (fr C) m) (hs : PlainIx (.Constant (.int j) jj p2) := by intro _ _; rfl) : JE X b (.Subscript a (.Constant (.int j) jj p2) pos) Γ (fr D) (m.bind fun x => some (f x)) := by
  intro F0 H0 σ F H A z ez Q q
  obtain ⟨x, e1, e2⟩ := bind_some ez
  cases e2
  refine wE_of (pe_ix ix_list pe_w pe_int hs) ?_
  refine ha F0 H0 σ F H A x e1 _ fun v F' H' g r => ?_
  obtain ⟨p, vs, w, rfl, h1, h2, h3⟩ := hC x v F' r
  exact ⟨p, vs, j, w, rfl, rfl, SqL.of (lst_of g.fx h1), h2, q w F' H' g h3⟩
def rowW (R F : Hp) (x : Wish × List Int) (p : Addr × Addr) : Prop := ∃ vw vs, R p.1 = some (.lst [vw, .ref p.2]) ∧ cW.rep x.1 vw F ∧ R p.2 = some (.lst vs) ∧ Paired (fun a v => cI.rep a v F) x.2 vs
def Dst (ps : List (Addr × Addr)) : Prop := ∀ (i j : Nat) p q, ps[i]? = some p → ps[j]? = some q → p.1 ≠ q.2 ∧ (i ≠ j → p.1 ≠ q.1 ∧ p.2 ≠ q.2)
def mLW (xs : List (Wish × List Int)) : OFact where
  p := fun _ o R F => ∃ ps : List (Addr × Addr), o = .lst (ps.map fun p => .ref p.1) ∧ Paired (rowW R F) xs ps ∧ Dst ps ∧ ∀ a u, R a = some u → ∃ ws, u = .lst ws
  mono := fun _ o R F F' s ⟨ps, h1, h2, h3⟩ => ⟨ps, h1, paired_mono h2 fun _ _ ⟨vw, vs, q1, q2, q3, q4⟩ => ⟨vw, vs, q1, cW.mono _ _ _ _ s q2, q3, paired_mono q4 fun _ _ r => cI.mono _ _ _ _ s r⟩, h3⟩
  nofrz := fun _ o R F ⟨ps, h1, _, _, h4⟩ => ⟨by subst h1; exact id, fun a u e => by obtain ⟨ws, rfl⟩ := h4 a u e; exact id⟩
theorem qLW {xs : List (Wish × List Int)} : ∀ l o R F, F l = none → R l = none → (∀ a u, R a = some u → F a = none) → (mLW xs).p l o R F → ((cL cWL).at xs).p (.ref l) (uni F R l o) := by
  rintro l o R F h1 h2 h3 ⟨ps, rfl, h4, h5⟩
  clear h5
  have hs := uni_same (o := .lst (ps.map fun p => .ref p.1)) h1 h3
  refine ⟨l, _, rfl, uni_l, ?_⟩
  generalize HO.lst (ps.map fun p => V.ref p.1) = oo at hs
  induction h4 with
  | nil => exact .nil
  | cons h _ ih =>
    obtain ⟨vw, vs, q1, q2, q3, q4⟩ := h
    exact .cons ⟨_, vw, _, rfl, uni_R h2 q1, cW.mono _ _ _ _ hs q2, _, vs, rfl, uni_R h2 q3, paired_mono q4 fun _ _ r => cI.mono _ _ _ _ hs r⟩ ih
theorem qW0 : ∀ (l : Addr) o F, (mL cWL []).p o F → (mLW []).p l o (fun _ => none) F := by
  rintro l o F ⟨vs, rfl, h⟩
  cases h
  exact ⟨[], rfl, .nil, fun i j p q h => by simp at h, fun _ _ z => by cases z⟩
theorem paired_upd {α β : Type} {G G' : α → β → Prop} : ∀ {xs : List α} {ps : List β}, Paired G xs ps → ∀ (j : Nat) (x' : α) (p' : β), (∀ (i : Nat) p, i ≠ j → ps[i]? = some p → ∀ x, G x p → G' x p) → G' x' p' → Paired G' (xs.set j x') (ps.set j p')
  | _, _, .nil, _, _, _, _, _ => .nil
  | _, _, .cons h t, 0, x', p', m, g => .cons g (paired_monoI t fun i p e => m (i + 1) p (Nat.succ_ne_zero i) (by simpa using e))
  | _, _, .cons h t, j + 1, x', p', m, g => .cons (m 0 _ (Nat.succ_ne_zero j).symm rfl _ h) (paired_upd t j x' p' (fun i p n e => m (i + 1) p (fun z => n (Nat.succ.inj z)) (by simpa using e)) g)
where
  paired_monoI {α β : Type} {G G' : α → β → Prop} : ∀ {xs : List α} {ps : List β}, Paired G xs ps → (∀ (i : Nat) p, ps[i]? = some p → ∀ x, G x p → G' x p) → Paired G' xs ps
  | _, _, .nil, _ => .nil
  | _, _, .cons h t, m => .cons (m 0 _ rfl _ h) (paired_monoI t fun i p e => m (i + 1) p (by simpa using e))
/- a new pair -/
def nwWL : Rk (Wish × List Int) where
  p := fun x v H F' H' => ∃ p q vw vs, v = .ref p ∧ p ≠ q ∧ H p = none ∧ H q = none ∧ H' p = some (.lst [vw, .ref q]) ∧ H' q = some (.lst vs) ∧ F' p = none ∧ F' q = none ∧ cW.rep x.1 vw F' ∧ Paired (fun a v => cI.rep a v F') x.2 vs
  back := fun _ _ _ _ _ _ s ⟨p, q, vw, vs, h1, h2, h3, h4, h5⟩ => ⟨p, q, vw, vs, h1, h2, s.free h3, s.free h4, h5⟩
  fwd := fun a v H F' H' F'' H'' s g ⟨p, q, vw, vs, h1, h2, h3, h4, h5, h6, h7, h8, h9, h10⟩ => ⟨p, q, vw, vs, h1, h2, h3, h4, g.hs _ _ h5, g.hs _ _ h6, g.stays h7 h5, g.stays h8 h6, cW.mono _ _ _ _ g.fs h9, paired_mono h10 fun _ _ r => cI.mono _ _ _ _ g.fs r⟩
  unl := fun a v H0 F' H' d x u ⟨p, q, vw, vs, h1, h2, h3, h4, h5, h6, h7⟩ => by
    have n1 : p ≠ d := fun z => by rw [z, upd_same] at h3; cases h3
    have n2 : q ≠ d := fun z => by rw [z, upd_same] at h4; cases h4
    rw [upd_ne n1] at h3
    rw [upd_ne n2] at h4
    exact ⟨p, q, vw, vs, h1, h2, h3, h4, by rw [upd_ne n1]; exact h5, by rw [upd_ne n2]; exact h6, h7⟩
section
variable {X : Cx} {b : Bool} {Γ : List En}
theorem je_lstWL {e1 e2 : Expr} {pos : Pos} {m1 : Option Wish} {m2 : Option (List Int)} (h1 : JE X b e1 Γ (fr cW) m1) (h2 : JE X b e2 Γ (nw (mL cI)) m2) (s1 : starEach [e1, e2] X.env = (false, eval e1 X.env) :: starEach [e2] X.env := by rfl) (s2 : starEach [e2] X.env = (false, eval e2 X.env) :: starEach [] X.env := by rfl) :
    JE X b (.List [e1, e2] pos) Γ nwWL (bind2 m1 m2 fun a x => some (a, x)) := by
  intro F0 H0 σ F H A z ez Q q
  obtain ⟨a1, a2, e1, e2, e3⟩ := bind2_some ez
  cases e3
  refine wE_of (pe_lst (pa_cons pe_w (pa_cons pe_w pa_nil s2) s1)) ?_
  refine h1 F0 H0 σ F H A a1 e1 _ fun v F1 H1 g1 r1 => ?_
  refine h2 F0 H0 σ F1 H1 (A.grow g1) a2 e2 _ fun w F2 H2 g2 r2 => ?_
  obtain ⟨l, o, rfl, q1, q2, q3, vs, rfl, q4⟩ := r2
  refine ⟨by show 2 ≤ _; decide, fun p hp => ?_⟩
  have np : p ≠ l := fun z => by rw [z, q2] at hp; cases hp
  have g := g1.trans g2
  exact q _ F2 _ (g.trans (grow_new g2.fx hp fun z => z)) ⟨p, l, v, vs, rfl, np, g.hs.free hp, g1.hs.free q1, upd_same, by rw [upd_ne (Ne.symm np)]; exact q2, g2.fx.emp hp, q3, cW.mono _ _ _ _ g2.fs r1, q4⟩
end
section
variable {X : Cx} {b : Bool} {Γ : List En} {i : Nat} {l : Addr} {rest : List Stmt} {S R' : Type} {Γs : S → List En} {k : Rk R'}
theorem rowW_at {R F : Hp} {xs : List (Wish × List Int)} {ps : List (Addr × Addr)} (h : Paired (rowW R F) xs ps) {i : Nat} {p : Addr × Addr} (e : ps[i]? = some p) : ∃ vw vs, R p.1 = some (.lst [vw, .ref p.2]) ∧ R p.2 = some (.lst vs) := by
  obtain ⟨x, _, vw, vs, h1, _, h3, _⟩ := paired_ix h e
  exact ⟨vw, vs, h1, h3⟩
theorem jb_appW {x : Str} {p apos cpos pos : Pos} {e : Expr} {xs : List (Wish × List Int)} {m : Option (Wish × List Int)} {f : List (Wish × List Int) → Option (Out S R')} (hN : X.N[i]? = some x) (hv : Vis X.env.scope x) (hg : Γ[i]? = some (.ow (atA l (mLW xs)))) (he : JE X b e Γ nwWL m)
    (hr : ∀ ys, JB X b rest (Γ.set i (.ow (atA l (mLW ys)))) Γs k (f ys)) (hbase : attributeBase (.Name x p) "append" X.env (eval (.Name x p) X.env) = eval (.Name x p) X.env := by rfl)
    (hfew : ((backTo cpos (starEach (e :: []) X.env)).all (fun x => !x.1) && (backToKw cpos (keywordEach [] X.env)).all (fun x => x.1.isSome) && decide ((e :: []).length + ([] : List Keyword).length + (if ([] : List Keyword).isEmpty then 0 else 1) < 30)) = true := by rfl)
    (hline : (apos.endLine == cpos.line) = true := by rfl) (hs : starEach [e] X.env = (false, eval e X.env) :: starEach [] X.env := by rfl) (hsw : swapsWith (.Call (.Attribute (.Name x p) "append" apos) [e] [] cpos) none pos.line X.env = pure false := by rfl)
    (hd : (x == ("__debug__" : Str)) = false := by decide) (hcd : (x == ("__classdict__" : Str)) = false := by decide) :
    JB X b (.Expr (.Call (.Attribute (.Name x p) "append" apos) [e] [] cpos) pos :: rest) Γ Γs k ((m.bind fun a => pApp xs a).bind f) := by
  intro F0 H0 σ F H A o ho D P
  obtain ⟨ys, e0, e2⟩ := bind_some ho
  obtain ⟨a, e1, e3⟩ := bind_some e0
  unfold pApp at e3
  by_cases c : xs.length < 1000000
  case neg => rw [if_neg c] at e3; cases e3
  rw [if_pos c] at e3
  cases e3
  refine wS_of (pss_cons (ps_expr (pe_bm PySem.F.plainAttrs_list PySem.F.slot_list_append PySem.F.type_list_append mt_append (pe_var hN hv hd hcd) (pa_cons pe_w pa_nil hs) hbase hfew hline hs rfl) hsw) pss_w) ?_
  obtain ⟨l', ob, R, w⟩ := A.ow i _ hg
  obtain ⟨w1, w2, w3, w4, w5, w6, ⟨rfl, ps, rfl, h6, h7, h8⟩, w8⟩ := id w
  refine ⟨_, w1, .inl ⟨rfl, _, SqL.of w2⟩, ?_⟩
  refine he F0 H0 σ F H A a e1 _ fun v F' H' g r => ?_
  obtain ⟨p1, q1, vw, vs, rfl, pq, r1, r2, r3, r4, r5, r6, r7, r8⟩ := r
  have wg := w.grow (F0 := F0) g
  obtain ⟨pl, pR, pH, pm⟩ := A.newO w r1
  obtain ⟨ql, qR, qH, qm⟩ := A.newO w r2
  refine ⟨l', _, .ref p1, rfl, rfl, wg.2.1, by rw [List.length_map, ← paired_len h6]; exact Nat.lt_trans c (by decide), ?_⟩
  have up1 : ∀ {a' : Addr} {u : HO}, R a' = some u → a' ≠ p1 ∧ a' ≠ q1 := fun {a' u} e => ⟨fun z => (by rw [z, pR] at e; cases e), fun z => (by rw [z, qR] at e; cases e)⟩
  have R1 : ∀ {a' : Addr} {u : HO}, R a' = some u → (upd (upd R p1 (.lst [vw, .ref q1])) q1 (.lst vs)) a' = some u := fun {a' u} e => by
    obtain ⟨n1, n2⟩ := up1 e
    rw [upd_ne n2, upd_ne n1]; exact e
  have Rp : (upd (upd R p1 (.lst [vw, .ref q1])) q1 (.lst vs)) p1 = some (.lst [vw, .ref q1]) := by rw [upd_ne pq, upd_same]
  have Rq : (upd (upd R p1 (.lst [vw, .ref q1])) q1 (.lst vs)) q1 = some (.lst vs) := upd_same
  have Rb : ∀ {a' : Addr} {u : HO}, (upd (upd R p1 (.lst [vw, .ref q1])) q1 (.lst vs)) a' = some u → (a' = q1 ∧ u = .lst vs) ∨ (a' = p1 ∧ u = .lst [vw, .ref q1]) ∨ R a' = some u := fun {a' u} e => by
    by_cases z : a' = q1
    · subst z; rw [upd_same] at e; exact .inl ⟨rfl, (Option.some.inj e).symm⟩
    · rw [upd_ne z] at e
      by_cases z : a' = p1
      · subst z; rw [upd_same] at e; exact .inr (.inl ⟨rfl, (Option.some.inj e).symm⟩)
      · rw [upd_ne z] at e; exact .inr (.inr e)
  have hnl : ∀ {a' : Addr} {u : HO}, R a' = some u → a' ≠ l' := fun {a' u} e z => by rw [z, w5] at e; cases e
  refine hr _ F0 H0 σ F' _ ((A.grow g).chgO (χ' := atA l' (mLW (xs ++ [a]))) (o' := .lst ((ps ++ [(p1, q1)]).map fun p => .ref p.1)) (R' := upd (upd R p1 (.lst [vw, .ref q1])) q1 (.lst vs)) hg wg (fun a' h1 _ => by rw [upd_ne h1]) (by rw [upd_same, List.map_append]; rfl) (by rw [upd_ne (Ne.symm ql), upd_ne (Ne.symm pl)]; exact w5) (fun a' u e => ?_) ⟨rfl, ps ++ [(p1, q1)], rfl, paired_app (paired_mono h6 fun _ _ ⟨vw', vs', t1, t2, t3, t4⟩ => ⟨vw', vs', R1 t1, cW.mono _ _ _ _ g.fs t2, R1 t3, paired_mono t4 fun _ _ z => cI.mono _ _ _ _ g.fs z⟩) (.cons ⟨vw, vs, Rp, r7, Rq, r8⟩ .nil), ?_, fun a' u e => ?_⟩) o e2 D P
  · rcases Rb e with ⟨rfl, rfl⟩ | ⟨rfl, rfl⟩ | e
    · exact ⟨by rw [upd_ne ql]; exact r4, r6, qH, qm⟩
    · exact ⟨by rw [upd_ne pl]; exact r3, r5, pH, pm⟩
    · obtain ⟨y1, y2, y3⟩ := wg.2.2.2.2.2.1 a' u e
      exact ⟨by rw [upd_ne (hnl e)]; exact y1, y2, y3, fun j ψ m e1 e2 z => by have := (w8 j ψ m e1 e2).2; rw [z, e] at this; cases this⟩
  · have nn : ∀ {i' : Nat} {p' : Addr × Addr}, ps[i']? = some p' → p'.1 ≠ p1 ∧ p'.1 ≠ q1 ∧ p'.2 ≠ p1 ∧ p'.2 ≠ q1 := fun {i' p'} e => by
      obtain ⟨vw', vs', t1, t2⟩ := rowW_at h6 e
      exact ⟨(up1 t1).1, (up1 t1).2, (up1 t2).1, (up1 t2).2⟩
    have cs : ∀ {i' : Nat} {p' : Addr × Addr}, (ps ++ [(p1, q1)])[i']? = some p' → ps[i']? = some p' ∨ (i' = ps.length ∧ p' = (p1, q1)) := fun {i' p'} e => by
      by_cases hi : i' < ps.length
      · rw [List.getElem?_append_left hi] at e; exact .inl e
      · rw [List.getElem?_append_right (by omega)] at e
        obtain ⟨z1, z2⟩ := List.getElem?_eq_some_iff.mp e
        simp at z1 z2
        exact .inr ⟨by omega, z2.symm⟩
    intro i1 i2 p2 q2 e1 e2
    rcases cs e1 with e1' | ⟨z1, rfl⟩ <;> rcases cs e2 with e2' | ⟨z2, rfl⟩
    · exact h7 i1 i2 p2 q2 e1' e2'
    · exact ⟨(nn e1').2.1, fun _ => ⟨(nn e1').1, (nn e1').2.2.2⟩⟩
    · exact ⟨(nn e2').2.2.1.symm, fun _ => ⟨(nn e2').1.symm, (nn e2').2.2.2.symm⟩⟩
    · exact ⟨pq, fun n => absurd (z1.trans z2.symm) n⟩
  · rcases Rb e with ⟨rfl, rfl⟩ | ⟨rfl, rfl⟩ | e
    · exact ⟨_, rfl⟩
    · exact ⟨_, rfl⟩
    · exact h8 a' u e
/- x = [] that is to hold pairs of one's own -/
theorem jb_asgLW {x : Str} {lpos pos pos' : Pos} {m : Option (Out S R')} (hN : X.N.Nodup) (hi : X.N[i]? = some x) (hx : Loc X.env.scope x) (hno : ∀ e ∈ Γ.set i (.mu (mL cWL [])), ∀ χ, e ≠ .ow χ) (hil : i < Γ.length)
    (hr : ∀ l, JB X b rest (Γ.set i (.ow (atA l (mLW [])))) Γs k m) (hs : swapsWith (.List [] lpos) (some (.Name x pos')) pos.line X.env = pure false := by rfl)
    (hf : X.fn x = true ∨ X.env.scope.names.lookup x = some .local := by first | exact .inl rfl | exact .inr rfl | assumption) : JB X b (.Assign [.Name x pos'] (.List [] lpos) pos :: rest) Γ Γs k m := by
  have he : JE X b (.List [] lpos) Γ (nw fun _ : Unit => mL cWL []) (some ()) := by
    intro F0 H0 σ F H A z ez Q q
    refine wE_of (pe_lst pa_nil) ⟨by decide, fun p hp => ?_⟩
    exact q _ F _ (grow_new A.gr.fx hp fun z => z) ⟨p, _, rfl, hp, upd_same, A.gr.fx.emp hp, [], rfl, .nil⟩
  refine jb_asgN (m := some ()) (f := fun _ => m) hN hi hx he (fun _ => ?_) hs hf
  refine jb_openA (i := i) (ψ := mL cWL []) (χ1 := mLW []) qW0 (by rw [List.getElem?_set_self hil]) hno fun l => ?_
  rw [List.set_set]; exact hr l
/- x[k][1] = a new list -/
def pSetW (xs : List (Wish × List Int)) (k : Int) (ns : List Int) : Option (List (Wish × List Int)) := (ixN xs.length k).bind fun j => (xs[j]?).bind fun x => some (xs.set j (x.1, ns))
theorem Dst.set {ps : List (Addr × Addr)} (h : Dst ps) {j : Nat} {p : Addr × Addr} {q' : Addr} (e : ps[j]? = some p) (f : ∀ (i' : Nat) (p' : Addr × Addr), ps[i']? = some p' → p'.1 ≠ q' ∧ p'.2 ≠ q') : Dst (ps.set j (p.1, q')) := by
  have hj : j < ps.length := (List.getElem?_eq_some_iff.mp e).1
  have cs : ∀ {i' : Nat} {p' : Addr × Addr}, (ps.set j (p.1, q'))[i']? = some p' → (i' ≠ j ∧ ps[i']? = some p') ∨ (i' = j ∧ p' = (p.1, q')) := fun {i' p'} e' => by
    by_cases z : j = i'
    · subst z; rw [List.getElem?_set_self hj] at e'; exact .inr ⟨rfl, (Option.some.inj e').symm⟩
    · rw [List.getElem?_set_ne z] at e'; exact .inl ⟨Ne.symm z, e'⟩
  intro i1 i2 p2 q2 e1 e2
  rcases cs e1 with ⟨n1, e1'⟩ | ⟨z1, rfl⟩ <;> rcases cs e2 with ⟨n2, e2'⟩ | ⟨z2, rfl⟩
  · exact h i1 i2 p2 q2 e1' e2'
  · exact ⟨(f _ _ e1').1, fun n => ⟨((h i1 j p2 p e1' e).2 n1).1, (f _ _ e1').2⟩⟩
  · exact ⟨(h j i2 p q2 e e2').1, fun n => ⟨((h j i2 p q2 e e2').2 (Ne.symm n2)).1, (f _ _ e2').2.symm⟩⟩
  · exact ⟨(f _ _ e).1, fun n => absurd (z1.trans z2.symm) n⟩
theorem jb_setW1 {x : Str} {jj : Nat} {p p2 spos pos pos' : Pos} {e kx : Expr} {xs : List (Wish × List Int)} {m : Option (List Int)} {mk : Option Int} {f : List (Wish × List Int) → Option (Out S R')} (hN : X.N[i]? = some x) (hv : Vis X.env.scope x) (hg : Γ[i]? = some (.ow (atA l (mLW xs))))
    (he : JE X b e Γ (nw (mL cI)) m) (hk : JE X b kx Γ (fr cI) mk) (hr : ∀ ys, JB X b rest (Γ.set i (.ow (atA l (mLW ys)))) Γs k (f ys)) (hns : PlainIx kx := by exact fun _ _ => rfl) (hs : swapsWithSole [.Subscript (.Subscript (.Name x p) kx spos) (.Constant (.int 1) jj p2) pos'] e pos.line X.env = pure false := by rfl) (hw : swappedStores [.Subscript (.Subscript (.Name x p) kx spos) (.Constant (.int 1) jj p2) pos'] e X.env = pure none := by rfl)
    (h1' : (assignEach [.Subscript (.Subscript (.Name x p) kx spos) (.Constant (.int 1) jj p2) pos'] X.env).map (·.2) = [assign (.Subscript (.Subscript (.Name x p) kx spos) (.Constant (.int 1) jj p2) pos') X.env] := by rfl)
    (ha : ∀ v, assign (.Subscript (.Subscript (.Name x p) kx spos) (.Constant (.int 1) jj p2) pos') X.env v = (do
      let ov ← holding [v] (eval (.Subscript (.Name x p) kx spos) X.env)
      let iv ← holding [v, ov] (eval (.Constant (.int 1) jj p2) X.env)
      standAt pos'
      holding [v, ov, iv] (setItem ov iv v)
      release [v, ov, iv] []) := by intro _; rfl)
    (hd : (x == ("__debug__" : Str)) = false := by decide) (hcd : (x == ("__classdict__" : Str)) = false := by decide) :
    JB X b (.Assign [.Subscript (.Subscript (.Name x p) kx spos) (.Constant (.int 1) jj p2) pos'] e pos :: rest) Γ Γs k ((m.bind fun a => mk.bind fun k => pSetW xs k a).bind f) := by
  intro F0 H0 σ F H A o ho D P
  obtain ⟨ys, e0, e2⟩ := bind_some ho
  obtain ⟨a, e1, e3⟩ := bind_some e0
  obtain ⟨kk, e4, e5⟩ := bind_some e3
  obtain ⟨jj', ej, e7⟩ := bind_some e5
  obtain ⟨xk, e8, e9⟩ := bind_some e7
  cases e9
  refine wS_of (pss_cons (ps_asg pe_w (pg_sub (pe_ix ix_list (pe_var hN hv hd hcd) pe_w hns) pe_int set_list ha) hs hw h1') pss_w) ?_
  obtain ⟨l', ob, R, w⟩ := A.ow i _ hg
  refine he F0 H0 σ F H A a e1 _ fun v F1 H1 g1 r1 => ?_
  obtain ⟨q', oq, rfl, r1, r2, r3, vq, rfl, r4⟩ := r1
  refine ⟨_, w.1, ?_⟩
  refine hk F0 H0 σ F1 H1 (A.grow g1) kk e4 _ fun w2 F2 H2 g2 r5 => ?_
  cases (show w2 = .int kk from r5)
  have g := g1.trans g2
  have wg := w.grow (F0 := F0) g
  obtain ⟨w1, x2, w3, w4, w5, w6, ⟨rfl, ps, rfl, h6, h7, h8⟩, w8⟩ := id wg
  have hlen : xs.length = ps.length := paired_len h6
  have hjl : jj' < ps.length := by rw [← hlen]; exact (List.getElem?_eq_some_iff.mp e8).1
  have ep := List.getElem?_eq_getElem hjl
  generalize hpk : ps[jj'] = pk at ep
  obtain ⟨xk', y1, vw, vs, y2, y3, y4, y5⟩ := paired_ix h6 ep
  rw [e8] at y1
  cases y1
  obtain ⟨ql, qR, qH, qm⟩ := A.newO w r1
  have hp := (w6 _ _ y2).1
  have pl : pk.1 ≠ l' := fun z => by rw [z, w5] at y2; cases y2
  have pq' : pk.1 ≠ q' := fun z => by rw [z, qR] at y2; cases y2
  refine ⟨l', _, kk, .ref pk.1, rfl, rfl, SqL.of x2, ?_, ?_⟩
  · show (ixN (ps.map fun p => V.ref p.1).length kk).bind (fun j => (ps.map fun p => V.ref p.1)[j]?) = _
    rw [List.length_map, ← hlen, ej]
    show (ps.map fun p => V.ref p.1)[jj']? = _
    rw [List.getElem?_map, ep]; rfl
  refine ⟨pk.1, [vw, .ref pk.2], 1, 1, rfl, rfl, hp, rfl, ?_⟩
  have R1 : ∀ {a' : Addr} {u : HO}, R a' = some u → a' ≠ pk.1 → (upd (upd R pk.1 (.lst [vw, .ref q'])) q' (.lst vq)) a' = some u := fun {a' u} e n => by
    rw [upd_ne (fun z => by rw [z, qR] at e; cases e), upd_ne n]; exact e
  have Rp : (upd (upd R pk.1 (.lst [vw, .ref q'])) q' (.lst vq)) pk.1 = some (.lst [vw, .ref q']) := by rw [upd_ne pq', upd_same]
  have Rb : ∀ {a' : Addr} {u : HO}, (upd (upd R pk.1 (.lst [vw, .ref q'])) q' (.lst vq)) a' = some u → (a' = q' ∧ u = .lst vq) ∨ (a' = pk.1 ∧ u = .lst [vw, .ref q']) ∨ (a' ≠ pk.1 ∧ R a' = some u) := fun {a' u} e => by
    by_cases z : a' = q'
    · subst z; rw [upd_same] at e; exact .inl ⟨rfl, (Option.some.inj e).symm⟩
    · rw [upd_ne z] at e
      by_cases z : a' = pk.1
      · subst z; rw [upd_same] at e; exact .inr (.inl ⟨rfl, (Option.some.inj e).symm⟩)
      · rw [upd_ne z] at e; exact .inr (.inr ⟨z, e⟩)
  refine hr _ F0 H0 σ F2 _ ((A.grow g).chgO (χ' := atA l' (mLW (xs.set jj' (xk.1, a)))) (o' := .lst (ps.map fun p => .ref p.1)) (R' := upd (upd R pk.1 (.lst [vw, .ref q'])) q' (.lst vq)) hg wg (fun a' h1 h2 => ?_) (by rw [upd_ne (Ne.symm pl)]; exact x2) (by rw [upd_ne (Ne.symm ql), upd_ne (Ne.symm pl)]; exact w5) (fun a' u e => ?_)
    ⟨rfl, ps.set jj' (pk.1, q'), ?_, paired_upd h6 jj' _ _ (fun i' p' n' e' x' ⟨vw', vs', t1, t2, t3, t4⟩ => ?_) ⟨vw, vq, Rp, y3, upd_same, paired_mono r4 fun _ _ z => cI.mono _ _ _ _ g2.fs z⟩, h7.set ep fun i' p' e' => ?_, fun a' u e => ?_⟩) o e2 D P
  · by_cases z : a' = pk.1
    · rw [z] at h2; rw [Rp] at h2; cases h2
    · rw [upd_ne z]
  · rcases Rb e with ⟨rfl, rfl⟩ | ⟨rfl, rfl⟩ | ⟨n, e⟩
    · exact ⟨by rw [upd_ne (Ne.symm pq')]; exact g2.hs _ _ r2, g2.stays r3 r2, qH, qm⟩
    · exact ⟨upd_same, (w6 _ _ y2).2.1, (w6 _ _ y2).2.2, fun j ψ m e1 e2 z => by have := (w8 j ψ m e1 e2).2; rw [z, y2] at this; cases this⟩
    · exact ⟨by rw [upd_ne n]; exact (w6 a' u e).1, (w6 a' u e).2.1, (w6 a' u e).2.2, fun j ψ m e1 e2 z => by have := (w8 j ψ m e1 e2).2; rw [z, e] at this; cases this⟩
  · congr 1
    rw [List.map_set]
    exact (List.ext_getElem? fun i' => by
      by_cases z : jj' = i'
      · subst z; rw [List.getElem?_set_self (by rw [List.length_map]; exact hjl), List.getElem?_map, ep]; rfl
      · rw [List.getElem?_set_ne z]).symm
  · have d1 := (h7 i' jj' p' pk e' ep).2 n'
    have d2 := (h7 jj' i' pk p' ep e').1
    exact ⟨vw', vs', R1 t1 d1.1, t2, R1 t3 (Ne.symm d2), t4⟩
  · obtain ⟨vw', vs', t1, t2⟩ := rowW_at h6 e'
    exact ⟨fun z => (by rw [z, qR] at t1; cases t1), fun z => (by rw [z, qR] at t2; cases t2)⟩
  · rcases Rb e with ⟨rfl, rfl⟩ | ⟨rfl, rfl⟩ | ⟨n, e⟩
    · exact ⟨_, rfl⟩
    · exact ⟨_, rfl⟩
    · exact h8 a' u e
/- x[k][1].append(e) -/
def pAppW (xs : List (Wish × List Int)) (k : Int) (a : Int) : Option (List (Wish × List Int)) := (ixN xs.length k).bind fun j => (xs[j]?).bind fun x => if x.2.length < 1000000 then some (xs.set j (x.1, x.2 ++ [a])) else none
theorem jb_appW1 {x : Str} {jj : Nat} {p p2 spos spos2 apos cpos pos : Pos} {e kx : Expr} {xs : List (Wish × List Int)} {m : Option Int} {mk : Option Int} {f : List (Wish × List Int) → Option (Out S R')} (hN : X.N[i]? = some x) (hv : Vis X.env.scope x) (hg : Γ[i]? = some (.ow (atA l (mLW xs))))
    (he : JE X b e Γ (fr cI) m) (hk : JE X b kx Γ (fr cI) mk) (hr : ∀ ys, JB X b rest (Γ.set i (.ow (atA l (mLW ys)))) Γs k (f ys)) (hns : PlainIx kx := by exact fun _ _ => rfl) (hs2 : PlainIx (.Constant (.int 1) jj p2) := by exact fun _ _ => rfl)
    (hbase : attributeBase (.Subscript (.Subscript (.Name x p) kx spos) (.Constant (.int 1) jj p2) spos2) "append" X.env (eval (.Subscript (.Subscript (.Name x p) kx spos) (.Constant (.int 1) jj p2) spos2) X.env) = eval (.Subscript (.Subscript (.Name x p) kx spos) (.Constant (.int 1) jj p2) spos2) X.env := by rfl)
    (hfew : ((backTo cpos (starEach (e :: []) X.env)).all (fun x => !x.1) && (backToKw cpos (keywordEach [] X.env)).all (fun x => x.1.isSome) && decide ((e :: []).length + ([] : List Keyword).length + (if ([] : List Keyword).isEmpty then 0 else 1) < 30)) = true := by rfl)
    (hline : (apos.endLine == cpos.line) = true := by rfl) (hs : starEach [e] X.env = (false, eval e X.env) :: starEach [] X.env := by rfl) (hsw : swapsWith (.Call (.Attribute (.Subscript (.Subscript (.Name x p) kx spos) (.Constant (.int 1) jj p2) spos2) "append" apos) [e] [] cpos) none pos.line X.env = pure false := by rfl)
    (hd : (x == ("__debug__" : Str)) = false := by decide) (hcd : (x == ("__classdict__" : Str)) = false := by decide) :
    JB X b (.Expr (.Call (.Attribute (.Subscript (.Subscript (.Name x p) kx spos) (.Constant (.int 1) jj p2) spos2) "append" apos) [e] [] cpos) pos :: rest) Γ Γs k ((mk.bind fun k => m.bind fun a => pAppW xs k a).bind f) := by
  intro F0 H0 σ F H A o ho D P
  obtain ⟨ys, e0, e2⟩ := bind_some ho
  obtain ⟨kk, e4, e3⟩ := bind_some e0
  obtain ⟨a, e1, e5⟩ := bind_some e3
  obtain ⟨jj', ej, e7⟩ := bind_some e5
  obtain ⟨xk, e8, e9⟩ := bind_some e7
  by_cases c : xk.2.length < 1000000
  case neg => rw [if_neg c] at e9; cases e9
  rw [if_pos c] at e9
  cases e9
  refine wS_of (pss_cons (ps_expr (pe_bm PySem.F.plainAttrs_list PySem.F.slot_list_append PySem.F.type_list_append mt_append (pe_ix ix_list (pe_ix ix_list (pe_var hN hv hd hcd) pe_w hns) pe_int hs2) (pa_cons pe_w pa_nil hs) hbase hfew hline hs rfl) hsw) pss_w) ?_
  obtain ⟨l', ob, R, w⟩ := A.ow i _ hg
  refine ⟨_, w.1, ?_⟩
  refine hk F0 H0 σ F H A kk e4 _ fun w2 F1 H1 g1 r5 => ?_
  cases (show w2 = .int kk from r5)
  have wg1 := w.grow (F0 := F0) g1
  obtain ⟨w1, x2, w3, w4, w5, w6, ⟨rfl, ps, rfl, h6, h7, h8⟩, w8⟩ := id wg1
  have hlen : xs.length = ps.length := paired_len h6
  have hjl : jj' < ps.length := by rw [← hlen]; exact (List.getElem?_eq_some_iff.mp e8).1
  have ep := List.getElem?_eq_getElem hjl
  generalize hpk : ps[jj'] = pk at ep
  obtain ⟨xk', y1, vw, vs, y2, y3, y4, y5⟩ := paired_ix h6 ep
  rw [e8] at y1
  cases y1
  refine ⟨l', _, kk, .ref pk.1, rfl, rfl, SqL.of x2, ?_, ?_⟩
  · show (ixN (ps.map fun p => V.ref p.1).length kk).bind (fun j => (ps.map fun p => V.ref p.1)[j]?) = _
    rw [List.length_map, ← hlen, ej]
    show (ps.map fun p => V.ref p.1)[jj']? = _
    rw [List.getElem?_map, ep]; rfl
  refine ⟨pk.1, [vw, .ref pk.2], 1, .ref pk.2, rfl, rfl, SqL.of (w6 _ _ y2).1, rfl, ?_⟩
  refine ⟨.inl ⟨rfl, vs, SqL.of (w6 _ _ y4).1⟩, ?_⟩
  refine he F0 H0 σ F1 H1 (A.grow g1) a e1 _ fun v F2 H2 g2 r => ?_
  have g := g1.trans g2
  have wg := w.grow (F0 := F0) g
  have y4' := (wg.2.2.2.2.2.1 _ _ y4).1
  have ql : pk.2 ≠ l' := fun z => by rw [z, w5] at y4; cases y4
  refine ⟨pk.2, vs, v, rfl, rfl, y4', by rw [← paired_len y5]; exact Nat.lt_trans c (by decide), ?_⟩
  have R1 : ∀ {a' : Addr} {u : HO}, R a' = some u → a' ≠ pk.2 → (upd R pk.2 (.lst (vs ++ [v]))) a' = some u := fun {a' u} e n => by
    rw [upd_ne n]; exact e
  have Rb : ∀ {a' : Addr} {u : HO}, (upd R pk.2 (.lst (vs ++ [v]))) a' = some u → (a' = pk.2 ∧ u = .lst (vs ++ [v])) ∨ (a' ≠ pk.2 ∧ R a' = some u) := fun {a' u} e => by
    by_cases z : a' = pk.2
    · subst z; rw [upd_same] at e; exact .inl ⟨rfl, (Option.some.inj e).symm⟩
    · rw [upd_ne z] at e; exact .inr ⟨z, e⟩
  obtain ⟨_, x2', _, _, _, w6', _, _⟩ := id wg
  have eset : ps.set jj' (pk.1, pk.2) = ps := by
    obtain ⟨z1, z2⟩ := List.getElem?_eq_some_iff.mp ep
    rw [show (pk.1, pk.2) = ps[jj'] from z2.symm, List.set_getElem_self]
  refine hr _ F0 H0 σ F2 _ ((A.grow g).chgO (χ' := atA l' (mLW (xs.set jj' (xk.1, xk.2 ++ [a])))) (o' := .lst (ps.map fun p => .ref p.1)) (R' := upd R pk.2 (.lst (vs ++ [v]))) hg wg (fun a' h1 h2 => ?_) (by rw [upd_ne (Ne.symm ql)]; exact x2') (by rw [upd_ne (Ne.symm ql)]; exact w5) (fun a' u e => ?_)
    ⟨rfl, ps, rfl, ?_, h7, fun a' u e => ?_⟩) o e2 D P
  · by_cases z : a' = pk.2
    · rw [z, upd_same] at h2; cases h2
    · rw [upd_ne z]
  · rcases Rb e with ⟨rfl, rfl⟩ | ⟨n, e⟩
    · exact ⟨upd_same, (w6' _ _ y4).2.1, (w6' _ _ y4).2.2, fun j ψ m e1 e2 z => by have := (w8 j ψ m e1 e2).2; rw [z, y4] at this; cases this⟩
    · exact ⟨by rw [upd_ne n]; exact (w6' a' u e).1, (w6' a' u e).2.1, (w6' a' u e).2.2, fun j ψ m e1 e2 z => by have := (w8 j ψ m e1 e2).2; rw [z, e] at this; cases this⟩
  · rw [← eset]
    rw [eset]
    have z := paired_upd (G' := rowW (upd R pk.2 (.lst (vs ++ [v]))) F2) h6 jj' (xk.1, xk.2 ++ [a]) (pk.1, pk.2) (fun i' p' n' e' x' ⟨vw', vs', t1, t2, t3, t4⟩ => by
      have d1 := (h7 i' jj' p' pk e' ep).2 n'
      have d2 := (h7 i' jj' p' pk e' ep).1
      exact ⟨vw', vs', R1 t1 d2, cW.mono _ _ _ _ g2.fs t2, R1 t3 d1.2, paired_mono t4 fun _ _ z => cI.mono _ _ _ _ g2.fs z⟩)
      ⟨vw, vs ++ [v], R1 y2 (h7 jj' jj' pk pk ep ep).1, cW.mono _ _ _ _ g2.fs y3, upd_same, paired_app (paired_mono y5 fun _ _ z => cI.mono _ _ _ _ g2.fs z) (.cons r .nil)⟩
    rw [eset] at z
    exact z
  · rcases Rb e with ⟨rfl, rfl⟩ | ⟨n, e⟩
    · exact ⟨_, rfl⟩
    · exact h8 a' u e
end
end Cw
/- CwPure: loops and options in plain Lean. -/
namespace Cw
open PySem PySem.Spec L2
open PyProof.Rows hiding St
theorem eqOf {α : Type} {a c : α} (h : a = c) : a = c := h
theorem obs {α β : Type} (a : α) (f : α → Option β) : (some a).bind f = f a := eqOf rfl
@[simp] theorem bind2_ss {α β γ : Type} (a : α) (c : β) (f : α → β → Option γ) : bind2 (some a) (some c) f = f a c := eqOf rfl
@[simp] theorem pAdd_eq (i j : Int) : pAdd i j = some (i + j) := eqOf rfl
@[simp] theorem pSub_eq (i j : Int) : pSub i j = some (i - j) := eqOf rfl
@[simp] theorem pNeg_eq (i : Int) : pNeg i = some (-i) := eqOf rfl
@[simp] theorem pLt_eq (i j : Int) : pLt i j = some (decide (i < j)) := eqOf rfl
@[simp] theorem pLe_eq (i j : Int) : pLe i j = some (decide (i ≤ j)) := eqOf rfl
@[simp] theorem pGt_eq (i j : Int) : pGt i j = some (decide (j < i)) := eqOf rfl
@[simp] theorem pGe_eq (i j : Int) : pGe i j = some (decide (j ≤ i)) := eqOf rfl
@[simp] theorem pEq_eq (i j : Int) : pEq i j = some (decide (i = j)) := eqOf rfl
@[simp] theorem pNe_eq (i j : Int) : pNe i j = some (!decide (i = j)) := eqOf rfl
@[simp] theorem pEqG_eq {α : Type} [DecidableEq α] (i j : α) : pEqG i j = some (decide (i = j)) := eqOf rfl
@[simp] theorem pNeG_eq {α : Type} [DecidableEq α] (i j : α) : pNeG i j = some (!decide (i = j)) := eqOf rfl
@[simp] theorem pEqB_eq (i j : Bool) : pEqB i j = some (decide (i = j)) := eqOf rfl
@[simp] theorem pEqS_eq (i j : Str) : pEqS i j = some (decide (i = j)) := eqOf rfl
@[simp] theorem pNeS_eq (i j : Str) : pNeS i j = some (!decide (i = j)) := eqOf rfl
@[simp] theorem pLen_eq {α : Type} (xs : List α) : pLen xs = some (xs.length : Int) := eqOf rfl
@[simp] theorem pId_eq {α : Type} (xs : α) : pId xs = some xs := eqOf rfl
@[simp] theorem pCons_eq {α β : Type} (a : α) (x : β) : pCons a x = some (a, x) := eqOf rfl
@[simp] theorem pSome_eq (a : Int) : pSome a = some (some a) := eqOf rfl
@[simp] theorem pGet_eq (a : Option Int) : pGet a = a := eqOf rfl
@[simp] theorem pNotN_eq (a : Option Int) : pNotN a = some (!decide (a = none)) := eqOf rfl
@[simp] theorem pSum_eq (xs : List Int) : pSum xs = some xs.sum := eqOf rfl
@[simp] theorem pAny_eq (xs : List Bool) : pAny xs = some (xs.any id) := eqOf rfl
@[simp] theorem pAll_eq (xs : List Bool) : pAll xs = some (xs.all id) := eqOf rfl
@[simp] theorem pInt1_eq (t : Bool) : pInt1 t = some (if t = true then 1 else 0) := eqOf rfl
@[simp] theorem pKeys_eq {α : Type} (kvs : List (Int × α)) : pKeys kvs = some (kvs.map (·.1)) := eqOf rfl
@[simp] theorem oAnd_t (n : Option Bool) : oAnd (some true) n = n := eqOf rfl
@[simp] theorem oAnd_f (n : Option Bool) : oAnd (some false) n = some false := eqOf rfl
@[simp] theorem oOr_t (n : Option Bool) : oOr (some true) n = some true := eqOf rfl
@[simp] theorem oOr_f (n : Option Bool) : oOr (some false) n = n := eqOf rfl
@[simp] theorem oNot_s (x : Bool) : oNot (some x) = some (!x) := eqOf rfl
theorem oAnd_ss (x y : Bool) : oAnd (some x) (some y) = some (x && y) := by cases x <;> rfl
theorem oOr_ss (x y : Bool) : oOr (some x) (some y) = some (x || y) := by cases x <;> rfl
@[simp] theorem seqO_nx {S S' R : Type} (k : S → Option (Out S' R)) (s : S) : seqO k (.nx s) = k s := eqOf rfl
@[simp] theorem seqO_rt {S S' R : Type} (k : S → Option (Out S' R)) (r : R) : seqO k (.rt r) = some (.rt r) := eqOf rfl
@[simp] theorem outR_rt {R : Type} (r : R) : outR (.rt r) = some r := eqOf rfl
theorem pMul_r {i j : Int} (h : -18446744073709551616 < j ∧ j < 18446744073709551616) : pMul i j = some (i * j) := by unfold pMul; rw [if_pos (.inr h)]
theorem pMul_l {i j : Int} (h : -18446744073709551616 < i ∧ i < 18446744073709551616) : pMul i j = some (i * j) := by unfold pMul; rw [if_pos (.inl h)]
theorem pDiv_p {i j : Int} (h : 0 < j ∧ j < 1073741824) : pDiv i j = some (i / j) := by unfold pDiv; rw [if_pos h]
theorem pMod_p {i j : Int} (h : 0 < j) : pMod i j = some (i % j) := by unfold pMod; rw [if_pos h]
theorem pApp_p {α : Type} {xs : List α} {a : α} (h : xs.length < 1000000) : pApp xs a = some (xs ++ [a]) := by unfold pApp; rw [if_pos h]
theorem pRng_p {n : Int} (h : 0 ≤ n) (h2 : n ≤ 1000000) : pRng n = some (upF 0 n.toNat) := by unfold pRng; rw [if_pos (by omega)]
theorem pMany_p {α : Type} {xs : List α} (h : xs.length ≤ 10000) : pMany xs = some xs := by unfold pMany; rw [if_pos h]
theorem pFew_p {α : Type} {xs : List α} (h : xs.length ≤ 1000) : pFew xs = some xs := by unfold pFew; rw [if_pos h]
theorem pSet_p {xs : List Int} (h : xs.length ≤ 1000) : pSet xs = some xs := by unfold pSet; rw [if_pos h]
theorem pSrtS_p {xs : List Int} (h : xs.length < 64) : pSrtS xs = some (srtS xs) := by unfold pSrtS; rw [if_pos h]
theorem pSrt_p {xs : List Int} (h : xs.length < 64) : pSrt xs = some (srt xs) := by unfold pSrt; rw [if_pos h]
theorem pCat_p {α : Type} {xs ys : List α} (h : xs.length + ys.length ≤ 10000) : pCat xs ys = some (xs ++ ys) := by unfold pCat; rw [if_pos h]
/- indices -/
theorem atI_i {α : Type} {xs : List α} {i : Int} {a : α} (h0 : 0 ≤ i) (h : xs[i.toNat]? = some a) : atI xs i = some a := by
  have e : i = ((i.toNat : Nat) : Int) := by omega
  rw [e]; exact atI_nat h
theorem atI_ex {α : Type} {xs : List α} {i : Int} (h0 : 0 ≤ i) (h : i < xs.length) : ∃ a, atI xs i = some a ∧ xs[i.toNat]? = some a ∧ a ∈ xs := by
  have hl : i.toNat < xs.length := by omega
  exact ⟨xs[i.toNat], atI_i h0 (List.getElem?_eq_getElem hl), List.getElem?_eq_getElem hl, List.getElem_mem hl⟩
theorem atI_m1 {α : Type} {xs : List α} (h : xs ≠ []) : atI xs (-1) = xs.getLast? := by
  have e : xs = xs.dropLast ++ [xs.getLast h] := (List.dropLast_concat_getLast h).symm
  rw [e, atI_last]; simp
theorem mem_upF {lo : Int} {n : Nat} {x : Int} : x ∈ upF lo n ↔ lo ≤ x ∧ x < lo + n := by
  unfold upF
  rw [List.mem_map]
  constructor
  · rintro ⟨i, h, rfl⟩; have := List.mem_range.mp h; omega
  · intro h; exact ⟨(x - lo).toNat, List.mem_range.mpr (by omega), by omega⟩
theorem upF_len (lo : Int) (n : Nat) : (upF lo n).length = n := by simp [upF]
theorem upF_at {lo : Int} {n i : Nat} {x : Int} (h : (upF lo n)[i]? = some x) : i < n ∧ x = lo + i := by
  have hi : i < n := by have := (List.getElem?_eq_some_iff.mp h).1; rwa [upF_len] at this
  refine ⟨hi, ?_⟩
  rw [upF, List.getElem?_map, List.getElem?_range hi] at h
  exact (Option.some.inj h).symm
/- for -/
theorem forO_inv {α S R : Type} {f : S → α → Option (Out S R)} {xs : List α} (I : Nat → S → Prop) (h : ∀ i s x, xs[i]? = some x → I i s → ∃ s', f s x = some (.nx s') ∧ I (i + 1) s') :
    ∀ {s : S}, I 0 s → ∃ s', forO f xs s = some (.nx s') ∧ I xs.length s' := by
  suffices g : ∀ (n : Nat) (s : S), n ≤ xs.length → I n s → ∃ s', forO f (xs.drop n) s = some (.nx s') ∧ I xs.length s' from fun {s} h0 => by simpa using g 0 s (Nat.zero_le _) h0
  intro n
  generalize hk : xs.length - n = k
  induction k generalizing n with
  | zero =>
    intro s hn hI
    have e : n = xs.length := by omega
    subst e
    rw [List.drop_length]
    exact ⟨s, rfl, hI⟩
  | succ k ih =>
    intro s hn hI
    have hlt : n < xs.length := by omega
    obtain ⟨s', h1, h2⟩ := h n s xs[n] (List.getElem?_eq_getElem hlt) hI
    obtain ⟨s2, h3, h4⟩ := ih (n + 1) (by omega) s' (by omega) h2
    refine ⟨s2, ?_, h4⟩
    rw [List.drop_eq_getElem_cons hlt]
    show (f s xs[n]).bind (seqO (forO f (xs.drop (n + 1)))) = _
    rw [h1]
    exact h3
/- a for whose turns all go on, told by a fold -/
theorem forO_fold {α S R : Type} {f : S → α → Option (Out S R)} {g : S → α → S} : ∀ {xs : List α} {s : S}, (∀ s x, x ∈ xs → f s x = some (.nx (g s x))) → forO f xs s = some (.nx (xs.foldl g s))
  | [], s, _ => rfl
  | x :: xs, s, h => by
    show (f s x).bind (seqO (forO f xs)) = _
    rw [h s x List.mem_cons_self]
    exact forO_fold fun s y hy => h s y (List.mem_cons_of_mem _ hy)
theorem ex_for {α S S' R T : Type} {f : S → α → Option (Out S R)} {xs : List α} {s : S} {k : S → Option (Out S' R)} {c : Out S' R → Option T} {P : T → Prop} (I : Nat → S → Prop) (h0 : I 0 s)
    (h : ∀ i s x, xs[i]? = some x → I i s → ∃ s', f s x = some (.nx s') ∧ I (i + 1) s') (hn : ∀ s', I xs.length s' → ∃ r, (k s').bind c = some r ∧ P r) : ∃ r, (((forO f xs s).bind (seqO k)).bind c) = some r ∧ P r := by
  obtain ⟨s', e, h1⟩ := forO_inv I h h0
  rw [e]
  exact hn s' h1
theorem ex_forI {α S S' R : Type} {f : S → α → Option (Out S R)} {xs : List α} {s : S} {k : S → Option (Out S' R)} {P : S' → Prop} (I : Nat → S → Prop) (h0 : I 0 s)
    (h : ∀ i s x, xs[i]? = some x → I i s → ∃ s', f s x = some (.nx s') ∧ I (i + 1) s') (hn : ∀ s', I xs.length s' → ∃ r, k s' = some (.nx r) ∧ P r) : ∃ r, ((forO f xs s).bind (seqO k)) = some (.nx r) ∧ P r := by
  obtain ⟨s', e, h1⟩ := forO_inv I h h0
  rw [e]
  exact hn s' h1
/- while -/
theorem whileO_inv {S R : Type} {c : S → Option Bool} {f : S → Option (Out S R)} (I : S → Prop) (μ : S → Nat) (h : ∀ s, I s → ∃ t, c s = some t ∧ (t = true → ∃ s', f s = some (.nx s') ∧ I s' ∧ μ s' < μ s)) :
    ∀ (n : Nat) (s : S), μ s < n → I s → ∃ s', whileO c f n s = some (.nx s') ∧ I s' ∧ c s' = some false := by
  intro n
  induction n with
  | zero => intro s hs; omega
  | succ n ih =>
    intro s hs hI
    obtain ⟨t, h1, h2⟩ := h s hI
    cases t with
    | false => exact ⟨s, by show (c s).bind _ = _; rw [h1]; rfl, hI, h1⟩
    | true =>
      obtain ⟨s', h3, h4, h5⟩ := h2 rfl
      obtain ⟨s2, h6, h7⟩ := ih s' (by omega) h4
      refine ⟨s2, ?_, h7⟩
      show (c s).bind _ = _
      rw [h1]
      show (f s).bind (seqO (whileO c f n)) = _
      rw [h3]
      exact h6
theorem ex_while {S S' R T : Type} {t : S → Option Bool} {f : S → Option (Out S R)} {n : Nat} {s : S} {k : S → Option (Out S' R)} {c : Out S' R → Option T} {P : T → Prop} (I : S → Prop) (μ : S → Nat) (h0 : I s) (hm : μ s < n)
    (h : ∀ s, I s → ∃ b, t s = some b ∧ (b = true → ∃ s', f s = some (.nx s') ∧ I s' ∧ μ s' < μ s)) (hn : ∀ s', I s' → t s' = some false → ∃ r, (k s').bind c = some r ∧ P r) : ∃ r, (((whileO t f n s).bind (seqO k)).bind c) = some r ∧ P r := by
  obtain ⟨s', e, h1, h2⟩ := whileO_inv I μ h n s hm h0
  rw [e]
  exact hn s' h1 h2
theorem ex_whileI {S S' R : Type} {t : S → Option Bool} {f : S → Option (Out S R)} {n : Nat} {s : S} {k : S → Option (Out S' R)} {P : S' → Prop} (I : S → Prop) (μ : S → Nat) (h0 : I s) (hm : μ s < n)
    (h : ∀ s, I s → ∃ b, t s = some b ∧ (b = true → ∃ s', f s = some (.nx s') ∧ I s' ∧ μ s' < μ s)) (hn : ∀ s', I s' → t s' = some false → ∃ r, k s' = some (.nx r) ∧ P r) : ∃ r, ((whileO t f n s).bind (seqO k)) = some (.nx r) ∧ P r := by
  obtain ⟨s', e, h1, h2⟩ := whileO_inv I μ h n s hm h0
  rw [e]
  exact hn s' h1 h2
theorem whileO_more {S R : Type} {c : S → Option Bool} {f : S → Option (Out S R)} : ∀ {n m : Nat} {s : S} {o : Out S R}, n ≤ m → whileO c f n s = some o → whileO c f m s = some o
  | 0, _, _, _, _, h => by cases h
  | n + 1, 0, _, _, hl, _ => by omega
  | n + 1, m + 1, s, o, hl, h => by
    obtain ⟨t, h1, h2⟩ := bind_some (show (c s).bind (fun t => if t = true then (f s).bind (seqO (whileO c f n)) else some (.nx s)) = some o from h)
    show (c s).bind (fun t => if t = true then (f s).bind (seqO (whileO c f m)) else some (.nx s)) = some o
    rw [h1]
    cases t with
    | false => exact h2
    | true =>
      obtain ⟨o1, h3, h4⟩ := bind_some (show (f s).bind (seqO (whileO c f n)) = some o from h2)
      show (f s).bind (seqO (whileO c f m)) = some o
      rw [h3]
      cases o1 with
      | nx s' => exact whileO_more (by omega) (show whileO c f n s' = some o from h4)
      | rt r => exact h4
/- comprehensions -/
theorem lcO_map {α β : Type} {f : α → Option β} {g : α → β} : ∀ {xs : List α}, (∀ x ∈ xs, f x = some (g x)) → lcO (fun _ => some true) f xs = some (xs.map g)
  | [], _ => rfl
  | x :: xs, h => by
    show (some true).bind _ = _
    show (f x).bind _ = _
    rw [h x List.mem_cons_self]
    show (lcO _ f xs).bind _ = _
    rw [lcO_map fun y hy => h y (List.mem_cons_of_mem _ hy)]
    rfl
theorem lcO_filter {α β : Type} {t : α → Option Bool} {p : α → Bool} {f : α → Option β} {g : α → β} : ∀ {xs : List α}, (∀ x ∈ xs, t x = some (p x)) → (∀ x ∈ xs, p x = true → f x = some (g x)) → lcO t f xs = some ((xs.filter p).map g)
  | [], _, _ => rfl
  | x :: xs, h, h2 => by
    have ih := lcO_filter (fun y hy => h y (List.mem_cons_of_mem _ hy)) (fun y hy => h2 y (List.mem_cons_of_mem _ hy))
    show (t x).bind _ = _
    rw [h x List.mem_cons_self]
    cases e : p x with
    | true =>
      show (f x).bind _ = _
      rw [h2 x List.mem_cons_self e]
      show (lcO t f xs).bind _ = _
      rw [ih, List.filter_cons_of_pos e]
      rfl
    | false =>
      show lcO t f xs = _
      rw [ih, List.filter_cons_of_neg (by simp [e])]
/- different things in a range are few -/
theorem nodup_sub {α : Type} [DecidableEq α] : ∀ {xs ys : List α}, xs.Nodup → (∀ x ∈ xs, x ∈ ys) → xs.length ≤ ys.length
  | [], _, _, _ => Nat.zero_le _
  | x :: xs, ys, h, s => by
    obtain ⟨h1, h2⟩ := List.nodup_cons.mp h
    have hx : x ∈ ys := s x List.mem_cons_self
    have ih := nodup_sub (xs := xs) (ys := ys.erase x) h2 fun y hy => by
      have ne : y ≠ x := fun e => h1 (e ▸ hy)
      exact (List.mem_erase_of_ne ne).mpr (s y (List.mem_cons_of_mem _ hy))
    rw [List.length_erase_of_mem hx] at ih
    have := List.length_pos_of_mem hx
    simp only [List.length_cons]
    omega
theorem nodup_rng {xs : List Int} {n : Nat} (h : xs.Nodup) (s : ∀ x ∈ xs, 0 ≤ x ∧ x < (n : Int)) : xs.length ≤ n := by
  have := nodup_sub (ys := upF 0 n) h fun x hx => mem_upF.mpr (by have := s x hx; omega)
  rwa [upF_len] at this
theorem inI_iff {a : Int} {xs : List Int} : inI a xs = true ↔ a ∈ xs := by
  unfold inI
  rw [List.any_eq_true]
  constructor
  · rintro ⟨y, h1, h2⟩; have : y = a := by simpa using h2
    subst this; exact h1
  · intro h; exact ⟨a, h, by simp⟩
@[simp] theorem pIn_eq (a : Int) (xs : List Int) : pIn a xs = some (decide (a ∈ xs)) := by
  unfold pIn; congr 1; rw [Bool.eq_iff_iff, inI_iff, decide_eq_true_eq]
@[simp] theorem pNotIn_eq (a : Int) (xs : List Int) : pNotIn a xs = some (!decide (a ∈ xs)) := by
  unfold pNotIn; congr 2; rw [Bool.eq_iff_iff, inI_iff, decide_eq_true_eq]
theorem pIndex_p {xs : List Int} {a : Int} (h : a ∈ xs) : ∃ j : Nat, pIndex xs a = some (j : Int) ∧ j < xs.length ∧ xs[j]? = some a := by
  unfold pIndex
  cases e : xs.findIdx? fun y => y == a with
  | none =>
    have := List.findIdx?_eq_none_iff.mp e a h
    simp at this
  | some j =>
    obtain ⟨hj, hp, _⟩ := List.findIdx?_eq_some_iff_getElem.mp e
    exact ⟨j, rfl, hj, by rw [List.getElem?_eq_getElem hj]; simpa using hp⟩
theorem cutG_to {α : Type} (xs : List α) (j : Nat) (h : j ≤ xs.length) : cutG xs none (some (j : Int)) = xs.take j := by
  unfold cutG
  rw [HT.sIx_none, HT.sIx_nat, Nat.min_eq_left h]; simp
theorem cutG_from {α : Type} (xs : List α) (j : Nat) (h : j ≤ xs.length) : cutG xs (some (j : Int)) none = xs.drop j := by
  unfold cutG
  rw [HT.sIx_none, HT.sIx_nat, Nat.min_eq_left h]
  exact List.take_of_length_le (by simp)
theorem pMax_ex {xs : List Int} (h : xs ≠ []) : ∃ m, pMax xs = some m ∧ m ∈ xs ∧ ∀ y ∈ xs, y ≤ m := by
  cases xs with
  | nil => exact absurd rfl h
  | cons x r => exact ⟨_, rfl, pMax_spec rfl⟩
theorem pMin_ex {xs : List Int} (h : xs ≠ []) : ∃ m, pMin xs = some m ∧ m ∈ xs ∧ ∀ y ∈ xs, m ≤ y := by
  cases xs with
  | nil => exact absurd rfl h
  | cons x r => exact ⟨_, rfl, pMin_spec rfl⟩
end Cw
namespace Cw
open PySem PySem.Spec L2
open PyProof.Rows hiding St
def mo_checked (row : (Int × Int × (List Int))) (many : Int) : Option (Out Unit (Ret Unit)) :=
  ((bind2 (((some row).bind fun x => some x.2.2).bind pLen) (some (0 : Int)) pEq).bind fun t => if t = true then ((some (Out.rt (Ret.ex "Stuck")))).bind (seqO noE) else (((some row).bind fun x => some x.2.2).bind fun xs => (forO (fun (s1 : Unit) (way : Int) => ((oNot ((some (0 : Int)).bind fun x => (some way).bind fun y => oAnd (pLe x y) ((some many).bind fun z => pLt y z))).bind fun t => if t = true then ((some (Out.rt (Ret.ex "NoPlace")))).bind (seqO noE) else (some (Out.nx ())))) xs ()).bind (seqO fun (s1 : Unit) => ((bind2 ((((some row).bind fun x => some x.2.2).bind pSet).bind pLenSet) (((some row).bind fun x => some x.2.2).bind pLen) pNe).bind fun t => if t = true then ((some (Out.rt (Ret.ex "Twice")))).bind (seqO noE) else (some (.nx ()))))))
def m_checked (row : (Int × Int × (List Int))) (many : Int) : Option (Ret Unit) := (mo_checked row many).bind outXU
def mo_made (rows : (List (Int × Int × (List Int)))) : Option (Out Unit (Ret (List Pl))) :=
  ((oNot ((some (1 : Int)).bind fun x => ((some rows).bind pLen).bind fun y => oAnd (pLe x y) ((some (24 : Int)).bind fun z => pLe y z))).bind fun t => if t = true then ((some (Out.rt (Ret.ex "TooMany")))).bind (seqO noE) else ((some rows).bind fun xs => (forO (fun (s1 : Unit) (row : (Int × Int × (List Int))) => (((bind2 (some row) (bind2 ((some rows).bind pLen) (some ()) pCons) pCons).bind fun x => m_checked x.1 x.2.1).bind (thenX fun _ => (some (Out.nx ()))))) xs ()).bind (seqO fun (s1 : Unit) => (Option.map okO ((((some rows).bind fun xs => (lcO (fun row => (some true)) (fun row => (((some row).bind fun x => some x.1).bind fun x => ((some row).bind fun x => some x.2.1).bind fun y => ((((some row).bind fun x => some x.2.2).bind pSrt).bind pId).bind fun z => some (x, y, z))) xs).bind pMany).bind pId).bind fun a => some (Out.rt a))))))
def m_made (rows : (List (Int × Int × (List Int)))) : Option (Ret (List Pl)) := (mo_made rows).bind outX
def mo_parts_of (wish : Wish) : Option (Out Unit (List Wish)) :=
  ((bind2 ((some wish).bind fun x => some x.kind) (Option.bind (α := (List Str)) (bind2 (some ("is" : Str)) (bind2 (some ("not" : Str)) (bind2 (some ("name" : Str)) (some []) fun a x => some (a :: x)) fun a x => some (a :: x)) fun a x => some (a :: x)) pFew) pInS).bind fun t => if t = true then (((Option.bind (α := (List Wish)) (some []) pFew).bind fun a => some (Out.rt a))).bind (seqO noE) else ((bind2 ((some wish).bind fun x => some x.kind) (Option.bind (α := (List Str)) (bind2 (some ("least" : Str)) (bind2 (some ("most" : Str)) (some []) fun a x => some (a :: x)) fun a x => some (a :: x)) pFew) pInS).bind fun t => if t = true then (((Option.bind (α := (List Wish)) (bind2 ((some wish).bind pW2W) (some []) fun a x => some (a :: x)) pFew).bind fun a => some (Out.rt a))).bind (seqO noE) else ((((some wish).bind pWtl).bind pId).bind fun a => some (Out.rt a))))
def m_parts_of (wish : Wish) : Option (List Wish) := (mo_parts_of wish).bind outR
def mo_bound18 (rec : Wish → (List Str) → Option (Ret Unit)) (wish : Wish) (names : (List Str)) : Option (Out Unit (Ret Unit)) :=
  ((oAnd (bind2 ((some wish).bind fun x => some x.kind) (some ("name" : Str)) pEqS) (bind2 ((some wish).bind pW1S) (some names) pNotInS)).bind fun t => if t = true then ((some (Out.rt (Ret.ex "Loose")))).bind (seqO noE) else (((bind2 (some wish) (some ()) pCons).bind fun x => m_parts_of x.1).bind fun xs => (forO (fun (s1 : Unit) (part : Wish) => ((bind2 ((some wish).bind fun x => some x.kind) (Option.bind (α := (List Str)) (bind2 (some ("least" : Str)) (bind2 (some ("most" : Str)) (some []) fun a x => some (a :: x)) fun a x => some (a :: x)) pFew) pInS).bind fun t => (if t = true then (((bind2 (some part) (bind2 (bind2 (some names) (Option.bind (α := (List Str)) (bind2 ((some wish).bind pW1S) (some []) fun a x => some (a :: x)) pFew) pCat) (some ()) pCons) pCons).bind fun x => rec x.1 x.2.1).bind (thenX fun _ => (some (Out.nx ())))) else (((bind2 (some part) (bind2 (some names) (some ()) pCons) pCons).bind fun x => rec x.1 x.2.1).bind (thenX fun _ => (some (Out.nx ()))))).bind (seqO fun (s2 : Unit) => (some (Out.nx ()))))) xs ()).bind (seqO fun (s1 : Unit) => (some (.nx ())))))
def m_bound18 : Nat → Wish → (List Str) → Option (Ret Unit)
  | 0, _, _ => none
  | d + 1, wish, names => (mo_bound18 (m_bound18 d) wish names).bind outXU
def mo_step_holds (kind : Str) (marks : (List Bool)) (ways : (List Int)) : Option (Out Unit Bool) :=
  ((bind2 (some kind) (some ("all" : Str)) pEqS).bind fun t => if t = true then (((((some ways).bind fun xs => (lcO (fun way => (some true)) (fun way => (bind2 (some marks) (some way) atI)) xs).bind pMany).bind pAll).bind fun a => some (Out.rt a))).bind (seqO noE) else ((((some ways).bind fun xs => (lcO (fun way => (some true)) (fun way => (bind2 (some marks) (some way) atI)) xs).bind pMany).bind pAny).bind fun a => some (Out.rt a)))
def m_step_holds (kind : Str) (marks : (List Bool)) (ways : (List Int)) : Option Bool := (mo_step_holds kind marks ways).bind outR
def mo_closed (rec : (List Pl) → Wish → (List (Str × (List Bool))) → Option (List Bool)) (game : (List Pl)) (wish : Wish) (meant : (List (Str × (List Bool)))) : Option (Out Unit (List Bool)) :=
  (((some game).bind fun xs => (lcO (fun place => (some true)) (fun place => (bind2 ((some wish).bind fun x => some x.kind) (some ("most" : Str)) pEqS)) xs).bind pMany).bind fun marks => ((some true).bind fun more => ((whileO (fun (s1 : ((List Bool) × Bool)) => (some s1.2)) (fun (s1 : ((List Bool) × Bool)) => (((some meant).bind pId).bind fun inner => (((some s1.1).bind fun a => ((some wish).bind pW1S).bind fun k => pPutS inner k a).bind fun inner => (((bind2 (some game) (bind2 ((some wish).bind pW2W) (bind2 (some inner) (some ()) pCons) pCons) pCons).bind fun x => rec x.1 x.2.1 x.2.2.1).bind fun found => ((bind2 (some found) (some s1.1) pNeG).bind fun more => ((some found).bind fun marks => (some (Out.nx (marks, more))))))))) 1000000 (marks, more)).bind (seqO fun (s1 : ((List Bool) × Bool)) => ((some s1.1).bind fun a => some (Out.rt a))))))
def m_closed (rec : (List Pl) → Wish → (List (Str × (List Bool))) → Option (List Bool)) (game : (List Pl)) (wish : Wish) (meant : (List (Str × (List Bool)))) : Option (List Bool) := (mo_closed rec game wish meant).bind outR
def mo_where (rec : (List Pl) → Wish → (List (Str × (List Bool))) → Option (List Bool)) (game : (List Pl)) (wish : Wish) (meant : (List (Str × (List Bool)))) : Option (Out Unit (List Bool)) :=
  (((some wish).bind fun x => some x.kind).bind fun kind => ((bind2 (some kind) (some ("is" : Str)) pEqS).bind fun t => if t = true then ((((some game).bind fun xs => (lcO (fun place => (some true)) (fun place => (bind2 ((some place).bind fun x => some x.2.1) ((some wish).bind pW1I) pEq)) xs).bind pMany).bind fun a => some (Out.rt a))).bind (seqO noE) else ((bind2 (some kind) (some ("not" : Str)) pEqS).bind fun t => if t = true then ((((some game).bind fun xs => (lcO (fun place => (some true)) (fun place => (bind2 ((some place).bind fun x => some x.2.1) ((some wish).bind pW1I) pNe)) xs).bind pMany).bind fun a => some (Out.rt a))).bind (seqO noE) else ((bind2 (some kind) (some ("name" : Str)) pEqS).bind fun t => if t = true then (((bind2 (some meant) ((some wish).bind pW1S) lookS).bind fun a => some (Out.rt a))).bind (seqO noE) else ((bind2 (some kind) (Option.bind (α := (List Str)) (bind2 (some ("least" : Str)) (bind2 (some ("most" : Str)) (some []) fun a x => some (a :: x)) fun a x => some (a :: x)) pFew) pInS).bind fun t => if t = true then ((((bind2 (some game) (bind2 (some wish) (bind2 (some meant) (some ()) pCons) pCons) pCons).bind fun x => m_closed rec x.1 x.2.1 x.2.2.1).bind fun a => some (Out.rt a))).bind (seqO noE) else (((bind2 (some game) (bind2 ((some wish).bind pW1W) (bind2 (some meant) (some ()) pCons) pCons) pCons).bind fun x => rec x.1 x.2.1 x.2.2.1).bind fun one => ((bind2 (some kind) (Option.bind (α := (List Str)) (bind2 (some ("all" : Str)) (bind2 (some ("some" : Str)) (some []) fun a x => some (a :: x)) fun a x => some (a :: x)) pFew) pInS).bind fun t => if t = true then ((((some game).bind fun xs => (lcO (fun place => (some true)) (fun place => ((bind2 (some kind) (bind2 (some one) (bind2 ((some place).bind fun x => some x.2.2) (some ()) pCons) pCons) pCons).bind fun x => m_step_holds x.1 x.2.1 x.2.2.1)) xs).bind pMany).bind fun a => some (Out.rt a))).bind (seqO noE) else (((bind2 (some game) (bind2 ((some wish).bind pW2W) (bind2 (some meant) (some ()) pCons) pCons) pCons).bind fun x => rec x.1 x.2.1 x.2.2.1).bind fun other => ((bind2 (some kind) (some ("and" : Str)) pEqS).bind fun t => if t = true then ((((((some game).bind pLen).bind pRng).bind fun xs => (lcO (fun at_v => (some true)) (fun at_v => (oAnd (bind2 (some one) (some at_v) atI) (bind2 (some other) (some at_v) atI))) xs).bind pMany).bind fun a => some (Out.rt a))).bind (seqO noE) else (((((some game).bind pLen).bind pRng).bind fun xs => (lcO (fun at_v => (some true)) (fun at_v => (oOr (bind2 (some one) (some at_v) atI) (bind2 (some other) (some at_v) atI))) xs).bind pMany).bind fun a => some (Out.rt a)))))))))))
def m_where : Nat → (List Pl) → Wish → (List (Str × (List Bool))) → Option (List Bool)
  | 0, _, _, _ => none
  | d + 1, game, wish, meant => (mo_where (m_where d) game wish meant).bind outR
def mo_holds18 (game : (List Pl)) (wish : Wish) : Option (Out Unit (Ret (List Bool))) :=
  (((bind2 (some wish) (bind2 (Option.bind (α := (List Str)) (some []) pFew) (some ()) pCons) pCons).bind fun x => m_bound18 30 x.1 x.2.1).bind (thenX fun _ => (Option.map okO ((((bind2 (some game) (bind2 (some wish) (bind2 (some []) (some ()) pCons) pCons) pCons).bind fun x => m_where 30 x.1 x.2.1 x.2.2.1).bind pId).bind fun a => some (Out.rt a)))))
def m_holds18 (game : (List Pl)) (wish : Wish) : Option (Ret (List Bool)) := (mo_holds18 game wish).bind outX
def mo_binders (rec : Wish → Option Int) (wish : Wish) : Option (Out Unit Int) :=
  (((((bind2 (some wish) (some ()) pCons).bind fun x => m_parts_of x.1).bind fun xs => (lcO (fun part => (some true)) (fun part => (bind2 ((bind2 (some part) (some ()) pCons).bind fun x => rec x.1) ((bind2 ((some part).bind fun x => some x.kind) (Option.bind (α := (List Str)) (bind2 (some ("least" : Str)) (bind2 (some ("most" : Str)) (some []) fun a x => some (a :: x)) fun a x => some (a :: x)) pFew) pInS).bind pInt1) pAdd)) xs).bind pMany).bind pSum).bind fun a => some (Out.rt a))
def m_binders : Nat → Wish → Option Int
  | 0, _ => none
  | d + 1, wish => (mo_binders (m_binders d) wish).bind outR
def mo_lay (rec : Wish → (List (Str × Int)) → (List (Wish × (List Int))) → Option (Int × (List (Wish × (List Int))))) (wish : Wish) (names : (List (Str × Int))) (found : (List (Wish × (List Int)))) : Option (Out (List (Wish × (List Int))) (Int × (List (Wish × (List Int))))) :=
  (((some found).bind pLen).bind fun at_v => (((bind2 (some wish) (Option.bind (α := (List Int)) (bind2 (some at_v) (some []) fun a x => some (a :: x)) pFew) fun x y => some (x, y)).bind fun a => pApp found a).bind fun s1 => ((bind2 ((some wish).bind fun x => some x.kind) (some ("name" : Str)) pEqS).bind fun t => (if t = true then (((bind2 (some wish) (Option.bind (α := (List Int)) (bind2 (bind2 (some names) ((some wish).bind pW1S) lookS) (some []) fun a x => some (a :: x)) pFew) fun x y => some (x, y)).bind fun a => (some at_v).bind fun i => setI s1 i a).bind fun s4 => (some (Out.nx s4))) else (some (Out.nx s1))).bind (seqO fun (s3 : (List (Wish × (List Int)))) => ((some names).bind fun inner => ((bind2 ((some wish).bind fun x => some x.kind) (Option.bind (α := (List Str)) (bind2 (some ("least" : Str)) (bind2 (some ("most" : Str)) (some []) fun a x => some (a :: x)) fun a x => some (a :: x)) pFew) pInS).bind fun t => (if t = true then (((some names).bind pId).bind fun inner => (((some at_v).bind fun a => ((some wish).bind pW1S).bind fun k => pPutS inner k a).bind fun inner => (some (Out.nx inner)))) else (some (Out.nx inner))).bind (seqO fun (s5 : (List (Str × Int))) => (qbo (((bind2 (some wish) (some ()) pCons).bind fun x => m_parts_of x.1).bind fun xs => (lcS (fun part s6 => ((bind2 (some part) (bind2 (some s5) (bind2 (some ()) (some ()) pCons) pCons) pCons).bind fun x => rec x.1 x.2.1 s6)) xs s3).bind pManyS) (fun numbers s7 => ((bind2 ((some numbers).bind pLen) (some (0 : Int)) pGt).bind fun t => (if t = true then (((bind2 (some wish) (some numbers) fun x y => some (x, y)).bind fun a => (some at_v).bind fun i => setI s7 i a).bind fun s10 => (some (Out.nx s10))) else (some (Out.nx s7))).bind (seqO fun (s9 : (List (Wish × (List Int)))) => ((some at_v).bind fun a => some (Out.rt (a, s9))))))))))))))
def m_lay : Nat → Wish → (List (Str × Int)) → (List (Wish × (List Int))) → Option (Int × (List (Wish × (List Int))))
  | 0, _, _, _ => none
  | d + 1, wish, names, found => (mo_lay (m_lay d) wish names found).bind outMR
def mo_crown_of (wish : Wish) (crown : Int) : Option (Out Unit Int) :=
  ((bind2 ((some wish).bind fun x => some x.kind) (some ("least" : Str)) pEqS).bind fun t => if t = true then (((bind2 (bind2 (some (2 : Int)) ((bind2 (some wish) (some ()) pCons).bind fun x => m_binders 30 x.1) pMul) (some (1 : Int)) pAdd).bind fun a => some (Out.rt a))).bind (seqO noE) else ((bind2 ((some wish).bind fun x => some x.kind) (some ("most" : Str)) pEqS).bind fun t => if t = true then (((bind2 (some (2 : Int)) ((bind2 (some wish) (some ()) pCons).bind fun x => m_binders 30 x.1) pMul).bind fun a => some (Out.rt a))).bind (seqO noE) else ((bind2 ((some wish).bind fun x => some x.kind) (some ("is" : Str)) pEqS).bind fun t => if t = true then ((((bind2 ((some wish).bind pW1I) (some crown) pNe).bind pInt1).bind fun a => some (Out.rt a))).bind (seqO noE) else ((bind2 ((some wish).bind fun x => some x.kind) (some ("not" : Str)) pEqS).bind fun t => if t = true then ((((bind2 ((some wish).bind pW1I) (some crown) pEq).bind pInt1).bind fun a => some (Out.rt a))).bind (seqO noE) else ((some (0 : Int)).bind fun a => some (Out.rt a))))))
def m_crown_of (wish : Wish) (crown : Int) : Option Int := (mo_crown_of wish crown).bind outR
def mo_row_of18 (place : Pl) (at_v : Int) (sign : (Wish × (List Int))) (many : Int) : Option (Out Unit (Int × Int × (List Int))) :=
  ((((some sign).bind fun x => some x.1).bind fun x => some x.kind).bind fun kind => ((Option.bind (α := (List Int)) (bind2 (some at_v) (some []) fun a x => some (a :: x)) pFew).bind fun starts => ((bind2 (some kind) (Option.bind (α := (List Str)) (bind2 (some ("all" : Str)) (bind2 (some ("some" : Str)) (some []) fun a x => some (a :: x)) fun a x => some (a :: x)) pFew) pInS).bind fun t => (if t = true then ((((some place).bind fun x => some x.2.2).bind pId).bind fun starts => (some (Out.nx starts))) else (some (Out.nx starts))).bind (seqO fun (s1 : (List Int)) => ((Option.bind (α := (List Int)) (some []) pFew).bind fun ways => ((some s1).bind fun xs => (forO (fun (s2 : (List Int)) (start : Int) => (((some sign).bind fun x => some x.2).bind fun xs => (forO (fun (s3 : (List Int)) (number : Int) => (((bind2 (bind2 (some start) (some many) pMul) (some number) pAdd).bind fun a => pApp s3 a).bind fun ways => (some (Out.nx ways)))) xs s2).bind (seqO fun (s3 : (List Int)) => (some (Out.nx s3))))) xs ways).bind (seqO fun (s2 : (List Int)) => ((((bind2 (some kind) (Option.bind (α := (List Str)) (bind2 (some ("and" : Str)) (bind2 (some ("all" : Str)) (some []) fun a x => some (a :: x)) fun a x => some (a :: x)) pFew) pInS).bind pInt1).bind fun x => ((bind2 ((some sign).bind fun x => some x.1) (bind2 ((some place).bind fun x => some x.2.1) (some ()) pCons) pCons).bind fun x => m_crown_of x.1 x.2.1).bind fun y => (some s2).bind fun z => some (x, y, z)).bind fun a => some (Out.rt a)))))))))
def m_row_of18 (place : Pl) (at_v : Int) (sign : (Wish × (List Int))) (many : Int) : Option (Int × Int × (List Int)) := (mo_row_of18 place at_v sign many).bind outR
def mo_wish_game (game : (List Pl)) (wish : Wish) : Option (Out Unit (Ret (List Pl))) :=
  (((bind2 (some wish) (bind2 (Option.bind (α := (List Str)) (some []) pFew) (some ()) pCons) pCons).bind fun x => m_bound18 30 x.1 x.2.1).bind (thenX fun _ => ((Option.bind (α := (List (Wish × (List Int)))) (some []) pFew).bind fun found => (qbo ((bind2 (some wish) (bind2 (some []) (bind2 (some ()) (some ()) pCons) pCons) pCons).bind fun x => m_lay 30 x.1 x.2.1 found) (fun _ s1 => ((bind2 (bind2 ((some game).bind pLen) ((some s1).bind pLen) pMul) (some (24 : Int)) pGt).bind fun t => if t = true then ((some (Out.rt (Ret.ex "TooMany")))).bind (seqO noE) else ((Option.bind (α := (List (Int × Int × (List Int)))) (some []) pFew).bind fun rows => ((((some game).bind pLen).bind pRng).bind fun xs => (forO (fun (s2 : (List (Int × Int × (List Int)))) (at_v : Int) => (Option.map okO ((some s1).bind fun xs => (forO (fun (s3 : (List (Int × Int × (List Int)))) (sign : (Wish × (List Int))) => ((((bind2 (bind2 (some game) (some at_v) atI) (bind2 (some at_v) (bind2 (some sign) (bind2 ((some s1).bind pLen) (some ()) pCons) pCons) pCons) pCons).bind fun x => m_row_of18 x.1 x.2.1 x.2.2.1 x.2.2.2.1).bind fun a => pApp s3 a).bind fun rows => (some (Out.nx rows)))) xs s2).bind (seqO fun (s3 : (List (Int × Int × (List Int)))) => (some (Out.nx s3)))))) xs rows).bind (seqO fun (s2 : (List (Int × Int × (List Int)))) => (((bind2 (some s2) (some ()) pCons).bind fun x => m_made x.1).bind fun r => some (Out.rt r)))))))))))
def m_wish_game (game : (List Pl)) (wish : Wish) : Option (Ret (List Pl)) := (mo_wish_game game wish).bind outX
def mo_law_cell_at (script : (List Int)) (k_v : Int) : Option (Out Unit Int) :=
  ((bind2 (some k_v) ((some script).bind pLen) pLt).bind fun t => if t = true then (((bind2 (some script) (some k_v) atI).bind fun a => some (Out.rt a))).bind (seqO noE) else ((some (0 : Int)).bind fun a => some (Out.rt a)))
def m_law_cell_at (script : (List Int)) (k_v : Int) : Option Int := (mo_law_cell_at script k_v).bind outR
def mo_law_pick (script : (List Int)) (k_v : Int) : Option (Out Unit Int) :=
  ((bind2 (some k_v) ((some script).bind pLen) pLt).bind fun t => if t = true then (((bind2 (some script) (some k_v) atI).bind fun a => some (Out.rt a))).bind (seqO noE) else ((bind2 (bind2 (bind2 (bind2 (bind2 ((bind2 (some script) (bind2 (some (0 : Int)) (some ()) pCons) pCons).bind fun x => m_law_cell_at x.1 x.2.1) (bind2 (some (7 : Int)) (some k_v) pMul) pAdd) (some (3 : Int)) pAdd) (some (48271 : Int)) pMul) (some (2147483647 : Int)) pMod) (some (13 : Int)) pDiv).bind fun a => some (Out.rt a)))
def m_law_pick (script : (List Int)) (k_v : Int) : Option Int := (mo_law_pick script k_v).bind outR
def mo_law_whole (x_v : Int) : Option (Out Unit Bool) :=
  ((oAnd ((some x_v).bind fun a => some ((fun _ : Int => true) a)) (oNot ((some x_v).bind fun a => some ((fun _ : Int => false) a)))).bind fun a => some (Out.rt a))
def m_law_whole (x_v : Int) : Option Bool := (mo_law_whole x_v).bind outR
def mo_law_mix (cell : Int) (k_v : Int) : Option (Out Unit Int) :=
  ((bind2 (bind2 (bind2 (some cell) (some (48271 : Int)) pMul) (bind2 (some k_v) (some (40692 : Int)) pMul) pAdd) (some (2147483647 : Int)) pMod).bind fun a => some (Out.rt a))
def m_law_mix (cell : Int) (k_v : Int) : Option Int := (mo_law_mix cell k_v).bind outR
def mo_law_place (number : Int) (many : Int) (spread : Int) (low : Int) : Option (Out Unit Pl) :=
  ((bind2 (some number) (bind2 (some (6 : Int)) (some spread) pMul) pDiv).bind fun left => ((Option.bind (α := (List Int)) (bind2 (bind2 (some left) (some many) pMod) (some []) fun a x => some (a :: x)) pFew).bind fun ways => (((bind2 (bind2 (some number) (bind2 (some (2 : Int)) (some spread) pMul) pDiv) (some (3 : Int)) pMod).bind pRng).bind fun xs => (forO (fun (s1 : (Int × (List Int))) (k_v : Int) => ((bind2 (some s1.1) (some many) pDiv).bind fun left => (((bind2 (some left) (some many) pMod).bind fun a => pApp s1.2 a).bind fun ways => (some (Out.nx (left, ways)))))) xs (left, ways)).bind (seqO fun (s1 : (Int × (List Int))) => ((((some s1.2).bind pSet).bind pSrtS).bind fun ways => (((bind2 (some number) (some (2 : Int)) pMod).bind fun x => (bind2 (some low) (bind2 (bind2 (some number) (some (2 : Int)) pDiv) (some spread) pMod) pAdd).bind fun y => ((some ways).bind pId).bind fun z => some (x, y, z)).bind fun a => some (Out.rt a)))))))
def m_law_place (number : Int) (many : Int) (spread : Int) (low : Int) : Option Pl := (mo_law_place number many spread low).bind outR
def mo_law_game (script : (List Int)) (start : Int) (many : Int) (spread : Int) (low : Int) : Option (Out Unit (List Pl)) :=
  ((Option.bind (α := (List Pl)) (some []) pFew).bind fun rows => (((some many).bind pRng).bind fun xs => (forO (fun (s1 : (List Pl)) (k_v : Int) => ((((bind2 ((bind2 ((bind2 (some script) (bind2 (bind2 (some start) (some k_v) pAdd) (some ()) pCons) pCons).bind fun x => m_law_pick x.1 x.2.1) (bind2 (some k_v) (some ()) pCons) pCons).bind fun x => m_law_mix x.1 x.2.1) (bind2 (some many) (bind2 (some spread) (bind2 (some low) (some ()) pCons) pCons) pCons) pCons).bind fun x => m_law_place x.1 x.2.1 x.2.2.1 x.2.2.2.1).bind fun a => pApp s1 a).bind fun rows => (some (Out.nx rows)))) xs rows).bind (seqO fun (s1 : (List Pl)) => (((some s1).bind pId).bind fun a => some (Out.rt a)))))
def m_law_game (script : (List Int)) (start : Int) (many : Int) (spread : Int) (low : Int) : Option (List Pl) := (mo_law_game script start many spread low).bind outR
def mo_law_same (found : (List Pl)) (due : (List Pl)) : Option (Out Unit Bool) :=
  ((oOr (oNot ((some found).bind fun a => some ((fun _ : (List Pl) => true) a))) (bind2 ((some found).bind pLen) ((some due).bind pLen) pNe)).bind fun t => if t = true then (((some false).bind fun a => some (Out.rt a))).bind (seqO noE) else ((((some due).bind pLen).bind pRng).bind fun xs => (forO (fun (s1 : Unit) (k_v : Int) => ((bind2 (some found) (some k_v) atI).bind fun row => ((oOr (oNot ((some row).bind fun a => some ((fun _ : Pl => true) a))) (oOr (bind2 ((some row).bind (fun _ => some 3)) (some (3 : Int)) pNe) (oNot (((some row).bind fun x => some x.2.2).bind fun a => some ((fun _ : (List Int) => true) a))))).bind fun t => if t = true then (((some false).bind fun a => some (Out.rt a))).bind (seqO noE) else ((oOr (oNot ((bind2 ((some row).bind fun x => some x.1) (some ()) pCons).bind fun x => m_law_whole x.1)) (oOr (oNot ((bind2 ((some row).bind fun x => some x.2.1) (some ()) pCons).bind fun x => m_law_whole x.1)) (bind2 (some row) (bind2 (some due) (some k_v) atI) pNeG))).bind fun t => if t = true then (((some false).bind fun a => some (Out.rt a))).bind (seqO noE) else (((some row).bind fun x => some x.2.2).bind fun xs => (forO (fun (s2 : Unit) (way : Int) => ((oNot ((bind2 (some way) (some ()) pCons).bind fun x => m_law_whole x.1)).bind fun t => if t = true then (((some false).bind fun a => some (Out.rt a))).bind (seqO noE) else (some (Out.nx ())))) xs ()).bind (seqO fun (s2 : Unit) => (some (Out.nx ())))))))) xs ()).bind (seqO fun (s1 : Unit) => ((some true).bind fun a => some (Out.rt a)))))
def m_law_same (found : (List Pl)) (due : (List Pl)) : Option Bool := (mo_law_same found due).bind outR
def mo_law_refused (marks : (List Bool)) (which : Int) : Option (Out Unit Bool) :=
  ((bind2 (some marks) (bind2 (((some (7 : Int)).bind pRng).bind fun xs => (lcO (fun k_v => (some true)) (fun k_v => (bind2 (some k_v) (some which) pEq)) xs).bind pMany) (Option.bind (α := (List Bool)) (bind2 (some true) (some []) fun a x => some (a :: x)) pFew) pCat) pEqG).bind fun a => some (Out.rt a))
def m_law_refused (marks : (List Bool)) (which : Int) : Option Bool := (mo_law_refused marks which).bind outR
def mo_law_told18 (game : (List Pl)) (wish : Wish) : Option (Out Unit ((Option (List Pl)) × (List Bool))) :=
  ((some none).bind fun found => ((Option.bind (α := (List Bool)) (some []) pFew).bind fun marks => ((((bind2 (some game) (bind2 (some wish) (some ()) pCons) pCons).bind fun x => m_wish_game x.1 x.2.1).bind (catchO ["Loose", "TooMany", "Stuck", "NoPlace", "Twice"] (fun a => ((some a), marks)) (fun nm => ((Option.bind (α := (List Bool)) (bind2 (some (exSub nm "TooMany")) (bind2 (some (exSub nm "Stuck")) (bind2 (some (exSub nm "NoPlace")) (bind2 (some (exSub nm "Twice")) (some []) fun a x => some (a :: x)) fun a x => some (a :: x)) fun a x => some (a :: x)) fun a x => some (a :: x)) pFew).bind fun marks => ((bind2 (some marks) (Option.bind (α := (List Bool)) (bind2 (some (exSub nm "Lost")) (bind2 (some (exSub nm "Loose")) (bind2 (some (exSub nm "NoNote")) (some []) fun a x => some (a :: x)) fun a x => some (a :: x)) fun a x => some (a :: x)) pFew) pCat).bind fun marks => (((some (exSub nm "ValueError")).bind fun a => pApp marks a).bind fun marks => (some (Out.nx (found, marks))))))))).bind (seqO fun (s1 : ((Option (List Pl)) × (List Bool))) => ((bind2 (some s1.1) (some s1.2) fun x y => some (x, y)).bind fun a => some (Out.rt a))))))
def m_law_told18 (game : (List Pl)) (wish : Wish) : Option ((Option (List Pl)) × (List Bool)) := (mo_law_told18 game wish).bind outR
def mo_law_spot (script : (List Int)) (spot : (List Int)) : Option (Int × (List Int)) :=
  (((bind2 (bind2 (some spot) (some (0 : Int)) atI) (some (1 : Int)) pAdd).bind fun a => (some (0 : Int)).bind fun i => setI spot i a).bind fun s1 => (qRet ((bind2 (some script) (bind2 (bind2 (some s1) (some (0 : Int)) atI) (some ()) pCons) pCons).bind fun x => m_law_pick x.1 x.2.1) s1))
def m_law_spot (script : (List Int)) (spot : (List Int)) : Option (Int × (List Int)) := mo_law_spot script spot
def mo_law_wish (rec : (List Int) → (List Int) → (List Str) → (List Int) → Int → Option (Wish × (List Int))) (script : (List Int)) (spot : (List Int)) (names : (List Str)) (crowns : (List Int)) (deep : Int) : Option (Wish × (List Int)) :=
  (qb (qCall (qCons (qCallM (qCons (qRet (some script) spot) (fun s1 => (qCons (some ((), s1)) (fun s2 => (some ((), s2)))))) (fun x s => m_law_spot x.1 s)) (fun s3 => (qCons (qRet (bind2 (some s3) (some (0 : Int)) atI) s3) (fun s4 => (some ((), s4)))))) (fun x => m_law_mix x.1 x.2.1)) (fun number s5 => (qb (qRet (bind2 (some number) (some (9 : Int)) pMod) s5) (fun kind s6 => (((bind2 (bind2 (some s6) (some (1 : Int)) atI) (some (1 : Int)) pSub).bind fun a => (some (1 : Int)).bind fun i => setI s6 i a).bind fun s7 => ((oOr (bind2 (some deep) (some (1 : Int)) pLt) (oOr (bind2 (bind2 (some s7) (some (1 : Int)) atI) (some (2 : Int)) pLt) (bind2 (some kind) (some (0 : Int)) pEq))).bind fun t => if t = true then ((oAnd (bind2 (some names) (Option.bind (α := (List Str)) (some []) pFew) pNe0) (bind2 (bind2 (bind2 (some number) (some (9 : Int)) pDiv) (some (3 : Int)) pMod) (some (0 : Int)) pGt)).bind fun t => if t = true then (qRet ((bind2 (some ("name" : Str)) (bind2 (some names) (bind2 (bind2 (some number) (some (27 : Int)) pDiv) ((some names).bind pLen) pMod) atI) fun x y => some (x, y)).bind fun x => some (mkS x)) s7) else (qRet ((bind2 (bind2 (Option.bind (α := (List Str)) (bind2 (some ("is" : Str)) (bind2 (some ("not" : Str)) (some []) fun a x => some (a :: x)) fun a x => some (a :: x)) pFew) (bind2 (bind2 (some number) (some (27 : Int)) pDiv) (some (2 : Int)) pMod) atI) (bind2 (bind2 (some crowns) (bind2 (bind2 (some number) (some (54 : Int)) pDiv) ((some crowns).bind pLen) pMod) atI) ((bind2 (bind2 (bind2 (some number) (some (540 : Int)) pDiv) (some (8 : Int)) pMod) (some (1 : Int)) pEq).bind pInt1) pAdd) fun x y => some (x, y)).bind fun x => some (mkI x)) s7)) else ((bind2 (some kind) (some (3 : Int)) pLt).bind fun t => if t = true then (qb (qCallM (qCons (qRet (some script) s7) (fun s8 => (qCons (some ((), s8)) (fun s9 => (qCons (qRet (some names) s9) (fun s10 => (qCons (qRet (some crowns) s10) (fun s11 => (qCons (qRet (bind2 (some deep) (some (1 : Int)) pSub) s11) (fun s12 => (some ((), s12)))))))))))) (fun x s => rec x.1 s x.2.2.1 x.2.2.2.1 x.2.2.2.2.1)) (fun one s13 => (qMap mkB (qTup3 (qRet (bind2 (Option.bind (α := (List Str)) (bind2 (some ("and" : Str)) (bind2 (some ("or" : Str)) (some []) fun a x => some (a :: x)) fun a x => some (a :: x)) pFew) (bind2 (some kind) (some (1 : Int)) pSub) atI) s13) (fun s14 => (qRet (some one) s14)) (fun s15 => (qCallM (qCons (qRet (some script) s15) (fun s16 => (qCons (some ((), s16)) (fun s17 => (qCons (qRet (some names) s17) (fun s18 => (qCons (qRet (some crowns) s18) (fun s19 => (qCons (qRet (bind2 (some deep) (some (1 : Int)) pSub) s19) (fun s20 => (some ((), s20)))))))))))) (fun x s => rec x.1 s x.2.2.1 x.2.2.2.1 x.2.2.2.2.1))))))) else ((bind2 (some kind) (some (5 : Int)) pLt).bind fun t => if t = true then (qMap mkU (qTup2 (qRet (bind2 (Option.bind (α := (List Str)) (bind2 (some ("all" : Str)) (bind2 (some ("some" : Str)) (some []) fun a x => some (a :: x)) fun a x => some (a :: x)) pFew) (bind2 (some kind) (some (3 : Int)) pSub) atI) s7) (fun s22 => (qCallM (qCons (qRet (some script) s22) (fun s23 => (qCons (some ((), s23)) (fun s24 => (qCons (qRet (some names) s24) (fun s25 => (qCons (qRet (some crowns) s25) (fun s26 => (qCons (qRet (bind2 (some deep) (some (1 : Int)) pSub) s26) (fun s27 => (some ((), s27)))))))))))) (fun x s => rec x.1 s x.2.2.1 x.2.2.2.1 x.2.2.2.2.1))))) else (qb (qRet (bind2 (Option.bind (α := (List Str)) (bind2 (some ("a" : Str)) (bind2 (some ("bb" : Str)) (bind2 (some ("xyz" : Str)) (bind2 (some ("a" : Str)) (some []) fun a x => some (a :: x)) fun a x => some (a :: x)) fun a x => some (a :: x)) fun a x => some (a :: x)) pFew) (bind2 (bind2 (some number) (some (9 : Int)) pDiv) (some (4 : Int)) pMod) atI) s7) (fun name s29 => (qb (qCallM (qCons (qRet (some script) s29) (fun s30 => (qCons (some ((), s30)) (fun s31 => (qCons (qRet (bind2 (some names) (Option.bind (α := (List Str)) (bind2 (some name) (some []) fun a x => some (a :: x)) pFew) pCat) s31) (fun s32 => (qCons (qRet (some crowns) s32) (fun s33 => (qCons (qRet (bind2 (some deep) (some (1 : Int)) pSub) s33) (fun s34 => (some ((), s34)))))))))))) (fun x s => rec x.1 s x.2.2.1 x.2.2.2.1 x.2.2.2.2.1)) (fun inner s35 => (qRet (((bind2 (Option.bind (α := (List Str)) (bind2 (some ("least" : Str)) (bind2 (some ("most" : Str)) (bind2 (some ("least" : Str)) (bind2 (some ("most" : Str)) (some []) fun a x => some (a :: x)) fun a x => some (a :: x)) fun a x => some (a :: x)) fun a x => some (a :: x)) pFew) (bind2 (some kind) (some (5 : Int)) pSub) atI).bind fun x => (some name).bind fun y => (some inner).bind fun z => some (x, y, z)).bind fun x => some (mkQ x)) s35)))))))))))))
def m_law_wish : Nat → (List Int) → (List Int) → (List Str) → (List Int) → Int → Option (Wish × (List Int))
  | 0, _, _, _, _, _ => none
  | d + 1, script, spot, names, crowns, deep => mo_law_wish (m_law_wish d) script spot names crowns deep
def mo_law_parts (wish : Wish) : Option (Out Unit (List Wish)) :=
  ((bind2 ((some wish).bind fun x => some x.kind) (Option.bind (α := (List Str)) (bind2 (some ("is" : Str)) (bind2 (some ("not" : Str)) (bind2 (some ("name" : Str)) (some []) fun a x => some (a :: x)) fun a x => some (a :: x)) fun a x => some (a :: x)) pFew) pInS).bind fun t => if t = true then (((Option.bind (α := (List Wish)) (some []) pFew).bind fun a => some (Out.rt a))).bind (seqO noE) else ((bind2 ((some wish).bind fun x => some x.kind) (Option.bind (α := (List Str)) (bind2 (some ("least" : Str)) (bind2 (some ("most" : Str)) (some []) fun a x => some (a :: x)) fun a x => some (a :: x)) pFew) pInS).bind fun t => if t = true then (((Option.bind (α := (List Wish)) (bind2 ((some wish).bind pW2W) (some []) fun a x => some (a :: x)) pFew).bind fun a => some (Out.rt a))).bind (seqO noE) else ((((some wish).bind pWtl).bind pId).bind fun a => some (Out.rt a))))
def m_law_parts (wish : Wish) : Option (List Wish) := (mo_law_parts wish).bind outR
def mo_law_signs (rec : Wish → Option Int) (wish : Wish) : Option (Out Unit Int) :=
  ((bind2 (some (1 : Int)) ((((bind2 (some wish) (some ()) pCons).bind fun x => m_law_parts x.1).bind fun xs => (lcO (fun part => (some true)) (fun part => ((bind2 (some part) (some ()) pCons).bind fun x => rec x.1)) xs).bind pMany).bind pSum) pAdd).bind fun a => some (Out.rt a))
def m_law_signs : Nat → Wish → Option Int
  | 0, _ => none
  | d + 1, wish => (mo_law_signs (m_law_signs d) wish).bind outR
def mo_law_binders (rec : Wish → Option Int) (wish : Wish) : Option (Out Unit Int) :=
  ((some (0 : Int)).bind fun many => (((bind2 (some wish) (some ()) pCons).bind fun x => m_law_parts x.1).bind fun xs => (forO (fun (s1 : Int) (part : Wish) => ((bind2 (bind2 (some s1) ((bind2 (some part) (some ()) pCons).bind fun x => rec x.1) pAdd) ((bind2 ((some part).bind fun x => some x.kind) (Option.bind (α := (List Str)) (bind2 (some ("least" : Str)) (bind2 (some ("most" : Str)) (some []) fun a x => some (a :: x)) fun a x => some (a :: x)) pFew) pInS).bind pInt1) pAdd).bind fun many => (some (Out.nx many)))) xs many).bind (seqO fun (s1 : Int) => ((some s1).bind fun a => some (Out.rt a)))))
def m_law_binders : Nat → Wish → Option Int
  | 0, _ => none
  | d + 1, wish => (mo_law_binders (m_law_binders d) wish).bind outR
def mo_law_lay (rec : Wish → (List (Str × Int)) → (List (Wish × List Int)) → Option (Unit × (List (Wish × List Int)))) (wish : Wish) (names : (List (Str × Int))) (found : (List (Wish × List Int))) : Option (Out (List (Wish × List Int)) (Unit × (List (Wish × List Int)))) :=
  (((some found).bind pLen).bind fun at_v => (((bind2 (some wish) (Option.bind (α := (List Int)) (bind2 (some at_v) (some []) fun a x => some (a :: x)) pFew) fun a x => some (a, x)).bind fun a => pApp found a).bind fun s1 => ((bind2 ((some wish).bind fun x => some x.kind) (some ("name" : Str)) pEqS).bind fun t => (if t = true then (((Option.bind (α := (List Int)) (bind2 (bind2 ((some names).bind fun xs => (lcO (fun pair => (bind2 ((some pair).bind fun x => some x.1) ((some wish).bind pW1S) pEqS)) (fun pair => ((some pair).bind fun x => some x.2)) xs).bind pMany) ((some (1 : Int)).bind pNeg) atI) (some []) fun a x => some (a :: x)) pFew).bind fun a => (some at_v).bind fun k => pSetW s1 k a).bind fun s4 => (some (Out.nx s4))) else (some (Out.nx s1))).bind (seqO fun (s3 : (List (Wish × List Int))) => ((bind2 ((some wish).bind fun x => some x.kind) (Option.bind (α := (List Str)) (bind2 (some ("least" : Str)) (bind2 (some ("most" : Str)) (some []) fun a x => some (a :: x)) fun a x => some (a :: x)) pFew) pInS).bind fun t => (if t = true then ((bind2 (some names) (Option.bind (α := (List (Str × Int))) (bind2 (bind2 ((some wish).bind pW1S) (some at_v) fun x y => some (x, y)) (some []) fun a x => some (a :: x)) pFew) pCat).bind fun names => (some (Out.nx names))) else (some (Out.nx names))).bind (seqO fun (s5 : (List (Str × Int))) => (((bind2 (some wish) (some ()) pCons).bind fun x => m_law_parts x.1).bind fun xs => (forO (fun (s6 : (List (Wish × List Int))) (part : Wish) => ((bind2 ((bind2 (some s6) (some at_v) atI).bind fun x => some x.2) (Option.bind (α := (List Int)) (bind2 (some at_v) (some []) fun a x => some (a :: x)) pFew) pEqG).bind fun t => (if t = true then (((Option.bind (α := (List Int)) (some []) pFew).bind fun a => (some at_v).bind fun k => pSetW s6 k a).bind fun s9 => (some (Out.nx s9))) else (some (Out.nx s6))).bind (seqO fun (s8 : (List (Wish × List Int))) => (((some at_v).bind fun k => ((some s8).bind pLen).bind fun a => pAppW s8 k a).bind fun s10 => (qbo ((bind2 (some part) (bind2 (some s5) (bind2 (some ()) (some ()) pCons) pCons) pCons).bind fun x => rec x.1 x.2.1 s10) (fun _ s11 => (some (Out.nx s11)))))))) xs s3).bind (seqO fun (s6 : (List (Wish × List Int))) => (some (.nx s6))))))))))
def m_law_lay : Nat → Wish → (List (Str × Int)) → (List (Wish × List Int)) → Option (Unit × (List (Wish × List Int)))
  | 0, _, _, _ => none
  | d + 1, wish, names, found => (mo_law_lay (m_law_lay d) wish names found).bind outMN
def mo_law_crown (wish : Wish) (crown : Int) : Option (Out Unit Int) :=
  ((oOr (bind2 ((some wish).bind fun x => some x.kind) (some ("least" : Str)) pEqS) (bind2 ((some wish).bind fun x => some x.kind) (some ("most" : Str)) pEqS)).bind fun t => if t = true then (((bind2 (bind2 (some (2 : Int)) ((bind2 (some wish) (some ()) pCons).bind fun x => m_law_binders 30 x.1) pMul) ((bind2 ((some wish).bind fun x => some x.kind) (some ("least" : Str)) pEqS).bind pInt1) pAdd).bind fun a => some (Out.rt a))).bind (seqO noE) else ((oOr (bind2 ((some wish).bind fun x => some x.kind) (some ("is" : Str)) pEqS) (bind2 ((some wish).bind fun x => some x.kind) (some ("not" : Str)) pEqS)).bind fun t => if t = true then ((((bind2 (bind2 ((some wish).bind pW1I) (some crown) pEq) (bind2 ((some wish).bind fun x => some x.kind) (some ("is" : Str)) pEqS) pNeB).bind pInt1).bind fun a => some (Out.rt a))).bind (seqO noE) else ((some (0 : Int)).bind fun a => some (Out.rt a))))
def m_law_crown (wish : Wish) (crown : Int) : Option Int := (mo_law_crown wish crown).bind outR
def mo_law_rows_of (game : (List Pl)) (wish : Wish) : Option (Out Unit (List Pl)) :=
  (qbo ((bind2 (some wish) (bind2 (Option.bind (α := (List (Str × Int))) (some []) pFew) (bind2 (some ()) (some ()) pCons) pCons) pCons).bind fun x => m_law_lay 30 x.1 x.2.1 []) (fun _ s1 => ((Option.bind (α := (List Pl)) (some []) pFew).bind fun rows => ((((some game).bind pLen).bind pRng).bind fun xs => (forO (fun (s2 : (List Pl)) (at_v : Int) => ((some s1).bind fun xs => (forO (fun (s3 : (List Pl)) (sign : (Wish × List Int)) => ((((some sign).bind fun x => some x.1).bind fun x => some x.kind).bind fun kind => ((Option.bind (α := (List Int)) (bind2 (some at_v) (some []) fun a x => some (a :: x)) pFew).bind fun starts => ((oOr (bind2 (some kind) (some ("all" : Str)) pEqS) (bind2 (some kind) (some ("some" : Str)) pEqS)).bind fun t => (if t = true then ((((bind2 (some game) (some at_v) atI).bind fun x => some x.2.2).bind pId).bind fun starts => (some (Out.nx starts))) else (some (Out.nx starts))).bind (seqO fun (s4 : (List Int)) => ((Option.bind (α := (List Int)) (some []) pFew).bind fun ways => ((some s4).bind fun xs => (forO (fun (s5 : (List Int)) (start : Int) => ((bind2 (some s5) (((some sign).bind fun x => some x.2).bind fun xs => (lcO (fun number => (some true)) (fun number => (bind2 (bind2 (some start) ((some s1).bind pLen) pMul) (some number) pAdd)) xs).bind pMany) pCat).bind fun ways => (some (Out.nx ways)))) xs ways).bind (seqO fun (s5 : (List Int)) => (((((oOr (bind2 (some kind) (some ("and" : Str)) pEqS) (bind2 (some kind) (some ("all" : Str)) pEqS)).bind pInt1).bind fun x => ((bind2 ((some sign).bind fun x => some x.1) (bind2 ((bind2 (some game) (some at_v) atI).bind fun x => some x.2.1) (some ()) pCons) pCons).bind fun x => m_law_crown x.1 x.2.1).bind fun y => ((some s5).bind pId).bind fun z => some (x, y, z)).bind fun a => pApp s3 a).bind fun rows => (some (Out.nx rows))))))))))) xs s2).bind (seqO fun (s3 : (List Pl)) => (some (Out.nx s3))))) xs rows).bind (seqO fun (s2 : (List Pl)) => (((some s2).bind pId).bind fun a => some (Out.rt a)))))))
def m_law_rows_of (game : (List Pl)) (wish : Wish) : Option (List Pl) := (mo_law_rows_of game wish).bind outR
def mo_law_loose (game : (List Pl)) (wish : Wish) : Option (Out Unit Bool) :=
  ((some false).bind fun told => ((((bind2 (some game) (bind2 (some wish) (some ()) pCons) pCons).bind fun x => m_holds18 x.1 x.2.1).bind (catchO ["Loose"] (fun a => told) (fun nm => ((some true).bind fun told => (some (Out.nx told)))))).bind (seqO fun (s1 : Bool) => ((some s1).bind fun a => some (Out.rt a)))))
def m_law_loose (game : (List Pl)) (wish : Wish) : Option Bool := (mo_law_loose game wish).bind outR
def mo_law_k18 (script : (List Int)) : Option (Out Unit Bool) :=
  ((bind2 (some (1 : Int)) (bind2 ((bind2 (some script) (bind2 (some (0 : Int)) (some ()) pCons) pCons).bind fun x => m_law_cell_at x.1 x.2.1) (some (6 : Int)) pMod) pAdd).bind fun many => ((bind2 ((bind2 (some script) (bind2 (some (2 : Int)) (some ()) pCons) pCons).bind fun x => m_law_cell_at x.1 x.2.1) (bind2 (some (10 : Int)) (some (20 : Int)) pPow) pMod).bind fun low => ((bind2 (some (1 : Int)) (bind2 ((bind2 (some script) (bind2 (some (1 : Int)) (some ()) pCons) pCons).bind fun x => m_law_cell_at x.1 x.2.1) (some (4 : Int)) pMod) pAdd).bind fun spread => (((bind2 (some script) (bind2 (some (4 : Int)) (bind2 (some many) (bind2 (some spread) (bind2 (some low) (some ()) pCons) pCons) pCons) pCons) pCons).bind fun x => m_law_game x.1 x.2.1 x.2.2.1 x.2.2.2.1 x.2.2.2.2.1).bind fun game => ((qDrop (bind2 (some script) (bind2 (Option.bind (α := (List Int)) (bind2 (bind2 (some (3 : Int)) (some many) pAdd) (bind2 (some (6 : Int)) (some []) fun a x => some (a :: x)) fun a x => some (a :: x)) pFew) (bind2 (Option.bind (α := (List Str)) (some []) pFew) (bind2 (((some spread).bind pRng).bind fun xs => (lcO (fun k_v => (some true)) (fun k_v => (bind2 (some low) (some k_v) pAdd)) xs).bind pMany) (bind2 (some (3 : Int)) (some ()) pCons) pCons) pCons) pConsL) pConsA) (fun x s => m_law_wish 5 x.1 s x.2.2.1 x.2.2.2.1 x.2.2.2.2.1)).bind fun wish => ((oAnd (bind2 (bind2 ((bind2 (some script) (bind2 (some (3 : Int)) (some ()) pCons) pCons).bind fun x => m_law_cell_at x.1 x.2.1) (some (4 : Int)) pMod) (some (1 : Int)) pNe) (bind2 (bind2 (bind2 ((bind2 (some script) (bind2 (some (3 : Int)) (some ()) pCons) pCons).bind fun x => m_law_cell_at x.1 x.2.1) (some (4 : Int)) pDiv) (some (3 : Int)) pMod) (some (1 : Int)) pEq)).bind fun t => (if t = true then ((bind2 (bind2 (some (24 : Int)) (some many) pMul) (bind2 (some (24 : Int)) (bind2 (bind2 (bind2 ((bind2 (some script) (bind2 (some (3 : Int)) (some ()) pCons) pCons).bind fun x => m_law_cell_at x.1 x.2.1) (some (12 : Int)) pDiv) (some (2 : Int)) pMod) (some many) pMul) pAdd) fun i j => some (if j < i then j else i)).bind fun room => (((bind2 (some ("is" : Str)) (some low) fun x y => some (x, y)).bind fun x => some (mkI x)).bind fun wish => ((whileO (fun (s3 : Wish) => (bind2 (bind2 (some many) (bind2 ((bind2 (some s3) (some ()) pCons).bind fun x => m_law_signs 30 x.1) (some (1 : Int)) pAdd) pMul) (some room) pLe)) (fun (s3 : Wish) => (((bind2 (bind2 (Option.bind (α := (List Str)) (bind2 (some ("all" : Str)) (bind2 (some ("some" : Str)) (some []) fun a x => some (a :: x)) fun a x => some (a :: x)) pFew) (bind2 ((bind2 (some s3) (some ()) pCons).bind fun x => m_law_signs 30 x.1) (some (2 : Int)) pMod) atI) (some s3) fun x y => some (x, y)).bind fun x => some (mkU x)).bind fun wish => (some (Out.nx wish)))) 30 wish).bind (seqO fun (s3 : Wish) => (some (Out.nx s3)))))) else (some (Out.nx wish))).bind (seqO fun (s2 : Wish) => ((bind2 (bind2 ((bind2 (some script) (bind2 (some (3 : Int)) (some ()) pCons) pCons).bind fun x => m_law_cell_at x.1 x.2.1) (some (4 : Int)) pMod) (some (1 : Int)) pEq).bind fun t => if t = true then (((bind2 (bind2 ((bind2 (some script) (bind2 (some (3 : Int)) (some ()) pCons) pCons).bind fun x => m_law_cell_at x.1 x.2.1) (some (4 : Int)) pDiv) (some (3 : Int)) pMod).bind fun form => ((bind2 (some form) (some (0 : Int)) pEq).bind fun t => (if t = true then ((((some ("or" : Str)).bind fun x => (some s2).bind fun y => (((some ("least" : Str)).bind fun x => (some ("q" : Str)).bind fun y => (((some ("and" : Str)).bind fun x => ((bind2 (some ("name" : Str)) (some ("qq" : Str)) fun x y => some (x, y)).bind fun x => some (mkS x)).bind fun y => ((bind2 (some ("name" : Str)) (some ("q" : Str)) fun x y => some (x, y)).bind fun x => some (mkS x)).bind fun z => some (x, y, z)).bind fun x => some (mkB x)).bind fun z => some (x, y, z)).bind fun x => some (mkQ x)).bind fun z => some (x, y, z)).bind fun x => some (mkB x)).bind fun wish => (some (Out.nx wish))) else (some (Out.nx s2))).bind (seqO fun (s4 : Wish) => ((bind2 (some form) (some (1 : Int)) pEq).bind fun t => (if t = true then ((((some ("or" : Str)).bind fun x => (((some ("least" : Str)).bind fun x => (some ("q" : Str)).bind fun y => (some s4).bind fun z => some (x, y, z)).bind fun x => some (mkQ x)).bind fun y => ((bind2 (some ("some" : Str)) ((bind2 (some ("name" : Str)) (some ("q" : Str)) fun x y => some (x, y)).bind fun x => some (mkS x)) fun x y => some (x, y)).bind fun x => some (mkU x)).bind fun z => some (x, y, z)).bind fun x => some (mkB x)).bind fun wish => (some (Out.nx wish))) else (some (Out.nx s4))).bind (seqO fun (s5 : Wish) => ((bind2 (some form) (some (2 : Int)) pEq).bind fun t => (if t = true then ((((some ("and" : Str)).bind fun x => ((bind2 (some ("all" : Str)) ((bind2 (some ("name" : Str)) (some ("q" : Str)) fun x y => some (x, y)).bind fun x => some (mkS x)) fun x y => some (x, y)).bind fun x => some (mkU x)).bind fun y => (((some ("most" : Str)).bind fun x => (some ("q" : Str)).bind fun y => (some s5).bind fun z => some (x, y, z)).bind fun x => some (mkQ x)).bind fun z => some (x, y, z)).bind fun x => some (mkB x)).bind fun wish => (some (Out.nx wish))) else (some (Out.nx s5))).bind (seqO fun (s6 : Wish) => ((oAnd ((bind2 (((bind2 (some game) (bind2 (some s6) (some ()) pCons) pCons).bind fun x => m_law_told18 x.1 x.2.1).bind fun x => some x.2) (bind2 (some (5 : Int)) (some ()) pCons) pCons).bind fun x => m_law_refused x.1 x.2.1) ((bind2 (some game) (bind2 (some s6) (some ()) pCons) pCons).bind fun x => m_law_loose x.1 x.2.1)).bind fun a => some (Out.rt a)))))))))).bind (seqO noE) else (((bind2 (some game) (bind2 (some s2) (some ()) pCons) pCons).bind fun x => m_law_told18 x.1 x.2.1).bind fun told => ((bind2 (bind2 (some many) ((bind2 (some s2) (some ()) pCons).bind fun x => m_law_signs 30 x.1) pMul) (some (24 : Int)) pGt).bind fun t => if t = true then ((((bind2 ((some told).bind fun x => some x.2) (bind2 (some (0 : Int)) (some ()) pCons) pCons).bind fun x => m_law_refused x.1 x.2.1).bind fun a => some (Out.rt a))).bind (seqO noE) else ((oAnd (bind2 ((some told).bind fun x => some x.2) (Option.bind (α := (List Bool)) (some []) pFew) pEqG) ((bind2 (((some told).bind fun x => some x.1).bind id) (bind2 ((bind2 (some game) (bind2 (some s2) (some ()) pCons) pCons).bind fun x => m_law_rows_of x.1 x.2.1) (some ()) pCons) pCons).bind fun x => m_law_same x.1 x.2.1)).bind fun a => some (Out.rt a))))))))))))
def m_law_k18 (script : (List Int)) : Option Bool := (mo_law_k18 script).bind outR
end Cw
/- PGame: the law's own game of a script. -/
namespace Cw
open PySem PySem.Spec L2
open PyProof.Rows hiding St
theorem cell_at_eq {s : List Int} {k : Int} (h : 0 ≤ k) : m_law_cell_at s k = some (s.getD k.toNat 0) := by
  unfold m_law_cell_at mo_law_cell_at
  by_cases c : k < s.length
  · obtain ⟨a, h1, h2, _⟩ := atI_ex h c
    have h3 : s.getD k.toNat 0 = a := by rw [List.getD_eq_getElem?_getD, h2]; rfl
    rw [h3]
    simp [c, h1]
  · have h3 : s.getD k.toNat 0 = 0 := by rw [List.getD_eq_getElem?_getD, List.getElem?_eq_none (by omega)]; rfl
    simp only [List.getD_eq_getElem?_getD] at h3
    simp [c, h3]
/- the number in cell k, 0 beyond -/
def cel (s : List Int) (k : Nat) : Int := s.getD k 0
theorem cell_at_nat (s : List Int) (k : Nat) : m_law_cell_at s (k : Int) = some (cel s k) := cell_at_eq (by omega)
@[simp] theorem cell0 (s : List Int) : m_law_cell_at s 0 = some (cel s 0) := cell_at_nat s 0
@[simp] theorem cell1 (s : List Int) : m_law_cell_at s 1 = some (cel s 1) := cell_at_nat s 1
@[simp] theorem cell2 (s : List Int) : m_law_cell_at s 2 = some (cel s 2) := cell_at_nat s 2
@[simp] theorem cell3 (s : List Int) : m_law_cell_at s 3 = some (cel s 3) := cell_at_nat s 3
@[simp] theorem cell4 (s : List Int) : m_law_cell_at s 4 = some (cel s 4) := cell_at_nat s 4
@[simp] theorem cell5 (s : List Int) : m_law_cell_at s 5 = some (cel s 5) := cell_at_nat s 5
theorem pick_ex (s : List Int) {k : Int} (h : 0 ≤ k) : ∃ v, m_law_pick s k = some v := by
  unfold m_law_pick mo_law_pick
  by_cases c : k < s.length
  · obtain ⟨a, h1, h2, _⟩ := atI_ex h c
    exact ⟨a, by simp [c, h1]⟩
  · refine ⟨(cel s 0 + 7 * k + 3) * 48271 % 2147483647 / 13, ?_⟩
    simp [c, pMul_l (i := 7), pMul_r (j := 48271), pMod_p, pDiv_p]
theorem mix_ex (c k : Int) : ∃ v, m_law_mix c k = some v ∧ 0 ≤ v ∧ v < 2147483647 := by
  refine ⟨(c * 48271 + k * 40692) % 2147483647, ?_, Int.emod_nonneg _ (by decide), Int.emod_lt_of_pos _ (by decide)⟩
  unfold m_law_mix mo_law_mix
  simp [pMul_r (j := 48271), pMul_r (j := 40692), pMod_p]
/- a place as the laws make them, among n -/
structure PlOk (n lo sp : Int) (p : Pl) : Prop where
  hand : p.1 = 0 ∨ p.1 = 1
  low : lo ≤ p.2.1
  high : p.2.1 < lo + sp
  ne : p.2.2 ≠ []
  inc : p.2.2.Pairwise (· < ·)
  rng : ∀ w ∈ p.2.2, 0 ≤ w ∧ w < n
  few : p.2.2.length ≤ 24
theorem place_ex {number many spread low : Int} (h0 : 0 ≤ number) (h1 : 0 < many) (h2 : many < 1000) (h3 : 0 < spread) (h4 : spread < 1000) : ∃ p, m_law_place number many spread low = some p ∧ PlOk many low spread p ∧ p.2.2.length ≤ 3 := by
  unfold m_law_place mo_law_place
  have hn : 0 ≤ number / (2 * spread) % 3 := Int.emod_nonneg _ (by decide)
  have hn3 : number / (2 * spread) % 3 < 3 := Int.emod_lt_of_pos _ (by decide)
  simp only [bind2_ss, obs, pMul_l (i := 6) (by decide), pMul_l (i := 2) (by decide), pDiv_p (j := 6 * spread) (by omega), pDiv_p (j := 2 * spread) (by omega), pDiv_p (j := many) (by omega), pDiv_p (j := 2) (by decide), pMod_p h1, pMod_p (j := 3) (by decide), pMod_p (j := 2) (by decide), pMod_p h3, pAdd_eq,
    pFew_p (xs := [number / (6 * spread) % many]) (by simp), pRng_p hn (by omega)]
  refine ex_for (fun i (st : Int × List Int) => st.2.length = i + 1 ∧ ∀ w ∈ st.2, 0 ≤ w ∧ w < many) ⟨rfl, fun w hw => ?_⟩ ?_ ?_
  · rw [List.mem_singleton.mp hw]
    exact ⟨Int.emod_nonneg _ (by omega), Int.emod_lt_of_pos _ h1⟩
  · intro i s x hx hI
    have hi := upF_at hx
    refine ⟨(s.1 / many, s.2 ++ [s.1 / many % many]), ?_, ?_, ?_⟩
    · rw [pApp_p (by have := hI.1; omega)]; rfl
    · simp [hI.1]
    · intro w hw
      rcases List.mem_append.mp hw with h | h
      · exact hI.2 w h
      · rw [List.mem_singleton.mp h]
        exact ⟨Int.emod_nonneg _ (by omega), Int.emod_lt_of_pos _ h1⟩
  rintro st ⟨el, ew⟩
  rw [upF_len] at el
  have h3l : st.2.length ≤ 3 := by omega
  simp only [obs, pSet_p (xs := st.2) (by omega), pSrtS_p (xs := st.2) (by omega), pId_eq, outR_rt]
  refine ⟨_, rfl, ⟨?_, ?_, ?_, ?_, srtS_sorted _, ?_, Nat.le_trans (Nat.le_trans (srtS_len _) h3l) (by decide)⟩, Nat.le_trans (srtS_len _) h3l⟩
  · show number % 2 = 0 ∨ number % 2 = 1; omega
  · have := Int.emod_nonneg (number / 2) (show spread ≠ 0 by omega)
    show low ≤ low + number / 2 % spread; omega
  · have := Int.emod_lt_of_pos (number / 2) h3
    show low + number / 2 % spread < low + spread; omega
  · intro e
    have : st.2 ≠ [] := by intro z; rw [z] at el; simp at el
    obtain ⟨w, hw⟩ := List.exists_mem_of_ne_nil _ this
    have := srtS_mem.mpr hw
    have e : srtS st.2 = [] := e
    rw [e] at this; simp at this
  · intro w hw
    exact ew w (srtS_mem.mp hw)
/- a game as the laws make them -/
structure GmOk (n : Nat) (lo sp : Int) (g : List Pl) : Prop where
  len : g.length = n
  all : ∀ p ∈ g, PlOk n lo sp p
theorem game_ex3 (s : List Int) {start many spread low : Int} (h0 : 0 ≤ start) (h1 : 0 < many) (h2 : many < 1000) (h3 : 0 < spread) (h4 : spread < 1000) : ∃ g, m_law_game s start many spread low = some g ∧ GmOk many.toNat low spread g ∧ ∀ p ∈ g, p.2.2.length ≤ 3 := by
  unfold m_law_game mo_law_game
  have em : ((many.toNat : Nat) : Int) = many := by omega
  simp only [obs, pFew_p (xs := ([] : List Pl)) (by simp), pRng_p (n := many) (by omega) (by omega)]
  refine ex_for (fun i (st : List Pl) => st.length = i ∧ ∀ p ∈ st, PlOk many low spread p ∧ p.2.2.length ≤ 3) ⟨rfl, fun p hp => by simp at hp⟩ ?_ ?_
  · intro i st x hx hI
    have hi := upF_at hx
    obtain ⟨v, hv⟩ := pick_ex s (k := start + x) (by omega)
    obtain ⟨u, hu, hu0, _⟩ := mix_ex v x
    obtain ⟨p, hp, hpo⟩ := place_ex (number := u) (low := low) hu0 h1 h2 h3 h4
    refine ⟨st ++ [p], ?_, by simp [hI.1], ?_⟩
    · simp only [bind2_ss, obs, pAdd_eq, pCons_eq, hv, hu, hp]
      rw [pApp_p (by have := hI.1; omega)]; rfl
    · intro q hq
      rcases List.mem_append.mp hq with h | h
      · exact hI.2 q h
      · rw [List.mem_singleton.mp h]; exact hpo
  · rintro st ⟨el, ea⟩
    rw [upF_len] at el
    exact ⟨st, rfl, ⟨el, by rw [em]; exact fun p hp => (ea p hp).1⟩, fun p hp => (ea p hp).2⟩
theorem game_ex (s : List Int) {start many spread low : Int} (h0 : 0 ≤ start) (h1 : 0 < many) (h2 : many < 1000) (h3 : 0 < spread) (h4 : spread < 1000) : ∃ g, m_law_game s start many spread low = some g ∧ GmOk many.toNat low spread g := by
  obtain ⟨g, e, G, _⟩ := game_ex3 s (low := low) h0 h1 h2 h3 h4
  exact ⟨g, e, G⟩
end Cw
/- PGame2: more plain lemmas: places read, loops that stop early, dicts. -/
namespace Cw
open PySem PySem.Spec L2
open PyProof.Rows hiding St
theorem some_of {α : Type} {m : Option α} {a : α} (h : ∃ r, m = some r ∧ r = a) : m = some a := by
  obtain ⟨r, h1, h2⟩ := h; rw [h1, h2]
@[simp] theorem pPow_10_20 : pPow 10 20 = some 100000000000000000000 := by
  unfold pPow
  rw [if_pos (by decide)]
  exact congrArg some (by decide)
@[simp] theorem pHas_eq {α : Type} (k : Int) (kvs : List (Int × α)) : pHas k kvs = some (lookD kvs k).isSome := eqOf rfl
@[simp] theorem pHasNot_eq {α : Type} (k : Int) (kvs : List (Int × α)) : pHasNot k kvs = some (!(lookD kvs k).isSome) := eqOf rfl
/- a place of a game -/
def gp (g : List Pl) (p : Int) : Pl := (g[p.toNat]?).getD (0, 0, [])
theorem gm_at {g : List Pl} {p : Int} (h0 : 0 ≤ p) (h1 : p < g.length) : atI g p = some (gp g p) := by
  obtain ⟨a, e1, e2, _⟩ := atI_ex (xs := g) (i := p) h0 h1
  rw [e1, gp, e2]; rfl
theorem gm_mem {g : List Pl} {p : Int} (h0 : 0 ≤ p) (h1 : p < g.length) : gp g p ∈ g := by
  obtain ⟨a, e1, e2, h⟩ := atI_ex (xs := g) (i := p) h0 h1
  rw [gp, e2]; exact h
theorem GmOk.pl {n : Nat} {lo sp : Int} {g : List Pl} (G : GmOk n lo sp g) {p : Int} (h0 : 0 ≤ p) (h1 : p < n) : PlOk n lo sp (gp g p) := G.all _ (gm_mem h0 (by rw [G.len]; exact h1))
theorem GmOk.at {n : Nat} {lo sp : Int} {g : List Pl} (G : GmOk n lo sp g) {p : Int} (h0 : 0 ≤ p) (h1 : p < n) : atI g p = some (gp g p) := gm_at h0 (by rw [G.len]; exact h1)
/- a loop that leaves the def where a test fails -/
theorem forO_all {α R : Type} {f : Unit → α → Option (Out Unit R)} {p : α → Bool} {r : R} : ∀ {xs : List α}, (∀ x ∈ xs, f () x = some (if p x = true then .nx () else .rt r)) → forO f xs () = some (if xs.all p = true then .nx () else .rt r)
  | [], _ => rfl
  | x :: xs, h => by
    show (f () x).bind (seqO (forO f xs)) = _
    rw [h x List.mem_cons_self, obs]
    cases e : p x with
    | true =>
      rw [if_pos rfl, seqO_nx, forO_all fun y hy => h y (List.mem_cons_of_mem _ hy), List.all_cons, e, Bool.true_and]
    | false =>
      rw [if_neg Bool.false_ne_true, seqO_rt, List.all_cons, e, Bool.false_and, if_neg Bool.false_ne_true]
/- the same where each turn leaves with a value of its own -/
theorem seq_ite {S S' R : Type} {k : S → Option (Out S' R)} {c : Bool} {s : S} {r : R} : seqO k (if c = true then .nx s else .rt r) = if c = true then k s else some (.rt r) := by cases c <;> rfl
theorem ite_some {α : Type} {c : Bool} {a b : α} : (if c = true then some a else some b) = some (if c = true then a else b) := by cases c <;> rfl
theorem ite_same {α : Type} {c : Bool} {a : α} : (if c = true then a else a) = a := by cases c <;> rfl
theorem outR_ite {R : Type} {c : Bool} {a b : R} : (if c = true then some (Out.rt (S := Unit) a) else some (.rt b)).bind outR = some (if c = true then a else b) := by cases c <;> rfl
theorem bool_ite {c : Bool} : (if c = true then true else false) = c := by cases c <;> rfl
/- dicts -/
def keysD {α : Type} (kvs : List (Int × α)) : List Int := kvs.map (·.1)
theorem lookD_nil {α : Type} (k : Int) : lookD ([] : List (Int × α)) k = none := rfl
theorem lookD_pos {α : Type} {p : Int × α} {r : List (Int × α)} {k : Int} (e : p.1 = k) : lookD (p :: r) k = some p.2 := by simp [lookD, List.find?_cons, e]
theorem lookD_neg {α : Type} {p : Int × α} {r : List (Int × α)} {k : Int} (e : ¬ p.1 = k) : lookD (p :: r) k = lookD r k := by simp [lookD, List.find?_cons, e]
theorem lookD_mem {α : Type} : ∀ {kvs : List (Int × α)} {k : Int} {v : α}, lookD kvs k = some v → (k, v) ∈ kvs
  | p :: r, k, v, h => by
    by_cases e : p.1 = k
    · rw [lookD_pos e] at h
      cases h
      subst e
      exact List.mem_cons_self
    · rw [lookD_neg e] at h
      exact List.mem_cons_of_mem _ (lookD_mem h)
theorem lookD_some {α : Type} : ∀ {kvs : List (Int × α)} {k : Int} {v : α}, (keysD kvs).Nodup → (k, v) ∈ kvs → lookD kvs k = some v
  | p :: r, k, v, nd, h => by
    obtain ⟨n1, n2⟩ := List.nodup_cons.mp (show (p.1 :: keysD r).Nodup from nd)
    rcases List.mem_cons.mp h with e | e
    · subst e; exact lookD_pos rfl
    · rw [lookD_neg fun z => n1 (by rw [z]; exact List.mem_map.mpr ⟨_, e, rfl⟩)]
      exact lookD_some n2 e
theorem lookD_has {α : Type} {kvs : List (Int × α)} {k : Int} : (lookD kvs k).isSome = true ↔ k ∈ keysD kvs := by
  constructor
  · intro h
    obtain ⟨v, e⟩ := Option.isSome_iff_exists.mp h
    exact List.mem_map.mpr ⟨_, lookD_mem e, rfl⟩
  · intro h
    induction kvs with
    | nil => cases h
    | cons p r ih =>
      by_cases e : p.1 = k
      · rw [lookD_pos e]; rfl
      · rw [lookD_neg e]
        rcases List.mem_cons.mp (show k ∈ p.1 :: keysD r from h) with z | z
        · exact absurd z.symm e
        · exact ih z
theorem lookD_hasB {α : Type} {kvs : List (Int × α)} {k : Int} : (lookD kvs k).isSome = decide (k ∈ keysD kvs) := by
  rw [Bool.eq_iff_iff, lookD_has, decide_eq_true_eq]
theorem lookD_ex {α : Type} {kvs : List (Int × α)} {k : Int} (h : k ∈ keysD kvs) : ∃ v, lookD kvs k = some v ∧ (k, v) ∈ kvs := by
  obtain ⟨v, e⟩ := Option.isSome_iff_exists.mp (lookD_has.mpr h)
  exact ⟨v, e, lookD_mem e⟩
theorem pPut_p {α : Type} {kvs : List (Int × α)} {k : Int} {v : α} (h : kvs.length < 1000000) : pPut kvs k v = some (putD kvs k v) := by unfold pPut; rw [if_pos h]
theorem any_has {α : Type} {kvs : List (Int × α)} {k : Int} : (kvs.any fun p => decide (p.1 = k)) = true ↔ k ∈ keysD kvs := by
  rw [List.any_eq_true, keysD, List.mem_map]
  constructor
  · rintro ⟨p, h1, h2⟩; exact ⟨p, h1, by simpa using h2⟩
  · rintro ⟨p, h1, h2⟩; exact ⟨p, h1, by simpa using h2⟩
theorem keys_put {α : Type} {kvs : List (Int × α)} {k : Int} {v : α} : keysD (putD kvs k v) = if k ∈ keysD kvs then keysD kvs else keysD kvs ++ [k] := by
  unfold putD
  by_cases h : k ∈ keysD kvs
  · rw [if_pos (any_has.mpr h), if_pos h]
    unfold keysD
    rw [List.map_map]
    refine List.map_congr_left fun p _ => ?_
    show (if p.1 = k then (p.1, v) else p).1 = p.1
    split <;> rfl
  · rw [if_neg (fun z => h (any_has.mp z)), if_neg h]
    unfold keysD
    rw [List.map_append]; rfl
theorem put_len {α : Type} {kvs : List (Int × α)} {k : Int} {v : α} : (putD kvs k v).length ≤ kvs.length + 1 := by
  unfold putD
  split
  · rw [List.length_map]; omega
  · simp
theorem put_nodup {α : Type} {kvs : List (Int × α)} {k : Int} {v : α} (h : (keysD kvs).Nodup) : (keysD (putD kvs k v)).Nodup := by
  rw [keys_put]
  by_cases c : k ∈ keysD kvs
  · rw [if_pos c]; exact h
  · rw [if_neg c, List.nodup_append]
    refine ⟨h, by simp, fun a ha b hb => ?_⟩
    rw [List.mem_singleton.mp hb]
    exact fun z => c (z ▸ ha)
theorem put_mem {α : Type} {kvs : List (Int × α)} {k k' : Int} {v v' : α} (h : (k', v') ∈ putD kvs k v) : (k' = k ∧ v' = v) ∨ (k' ≠ k ∧ (k', v') ∈ kvs) := by
  unfold putD at h
  split at h
  · obtain ⟨p, h1, h2⟩ := List.mem_map.mp h
    by_cases e : p.1 = k
    · rw [if_pos e] at h2
      cases h2
      exact .inl ⟨e, rfl⟩
    · rw [if_neg e] at h2
      subst h2
      exact .inr ⟨e, h1⟩
  · rename_i c
    rcases List.mem_append.mp h with z | z
    · refine .inr ⟨fun e => c (any_has.mpr ?_), z⟩
      subst e
      exact List.mem_map.mpr ⟨_, z, rfl⟩
    · cases List.mem_singleton.mp z
      exact .inl ⟨rfl, rfl⟩
theorem mem_keys_put {α : Type} {kvs : List (Int × α)} {k k' : Int} {v : α} : k' ∈ keysD (putD kvs k v) ↔ k' = k ∨ k' ∈ keysD kvs := by
  rw [keys_put]
  by_cases c : k ∈ keysD kvs
  · rw [if_pos c]
    constructor
    · exact .inr
    · rintro (e | e)
      · rw [e]; exact c
      · exact e
  · rw [if_neg c, List.mem_append, List.mem_singleton]
    exact Or.comm
theorem look_put {α : Type} {k k' : Int} {v : α} : ∀ {kvs : List (Int × α)}, lookD (putD kvs k v) k' = if k' = k then some v else lookD kvs k' := by
  intro kvs
  unfold putD
  by_cases c : (kvs.any fun p => decide (p.1 = k)) = true
  · rw [if_pos c]
    have hk := any_has.mp c
    clear c
    induction kvs with
    | nil => cases hk
    | cons p r ih =>
      rw [List.map_cons]
      by_cases e : p.1 = k
      · rw [if_pos e]
        by_cases e2 : k' = k
        · rw [if_pos e2, lookD_pos (by rw [e2]; exact e)]
        · rw [if_neg e2, lookD_neg (by rw [e]; exact fun z => e2 z.symm), lookD_neg (by rw [e]; exact fun z => e2 z.symm)]
          clear ih hk
          induction r with
          | nil => rfl
          | cons q r ih =>
            rw [List.map_cons]
            by_cases e3 : q.1 = k
            · rw [if_pos e3, lookD_neg (by show ¬ q.1 = k'; rw [e3]; exact fun z => e2 z.symm), lookD_neg (by rw [e3]; exact fun z => e2 z.symm)]
              exact ih
            · rw [if_neg e3]
              by_cases e4 : q.1 = k'
              · rw [lookD_pos e4, lookD_pos e4]
              · rw [lookD_neg e4, lookD_neg e4]; exact ih
      · rw [if_neg e]
        have hk2 : k ∈ keysD r := by
          rcases List.mem_cons.mp (show k ∈ p.1 :: keysD r from hk) with z | z
          · exact absurd z.symm e
          · exact z
        by_cases e4 : p.1 = k'
        · rw [lookD_pos e4, lookD_pos e4, if_neg fun z => e (e4.trans z)]
        · rw [lookD_neg e4, lookD_neg e4]; exact ih hk2
  · rw [if_neg c]
    have hk : k ∉ keysD kvs := fun z => c (any_has.mpr z)
    clear c
    induction kvs with
    | nil =>
      by_cases e : k' = k
      · rw [if_pos e]; exact lookD_pos e.symm
      · rw [if_neg e]; exact lookD_neg fun z => e z.symm
    | cons p r ih =>
      rw [List.cons_append]
      have h1 : p.1 ≠ k := fun z => hk (List.mem_cons.mpr (.inl z.symm))
      have h2 : k ∉ keysD r := fun z => hk (List.mem_cons_of_mem _ z)
      by_cases e4 : p.1 = k'
      · rw [lookD_pos e4, lookD_pos e4, if_neg fun z => h1 (e4.trans z)]
      · rw [lookD_neg e4, lookD_neg e4]; exact ih h2
theorem eqDict_refl {α : Type} [DecidableEq α] {kvs : List (Int × α)} (h : (keysD kvs).Nodup) : pEqDict kvs kvs = some true := by
  unfold pEqDict
  rw [if_pos ⟨rfl, fun p hp => lookD_some h hp⟩]
theorem keys_eq {α : Type} (kvs : List (Int × α)) : kvs.map (·.1) = keysD kvs := rfl
theorem keys_len {α : Type} (kvs : List (Int × α)) : (keysD kvs).length = kvs.length := by simp [keysD]
/- how a loop ends: gone through, or left with a value -/
def Res {S R : Type} (I : S → Prop) (Q : R → Prop) : Out S R → Prop
  | .nx s => I s
  | .rt r => Q r
theorem forO_res {α S R : Type} {f : S → α → Option (Out S R)} {xs : List α} (I : Nat → S → Prop) (Q : R → Prop) (h : ∀ i s x, xs[i]? = some x → I i s → ∃ o, f s x = some o ∧ Res (I (i + 1)) Q o) :
    ∀ {s : S}, I 0 s → ∃ o, forO f xs s = some o ∧ Res (I xs.length) Q o := by
  suffices g : ∀ (n : Nat) (s : S), n ≤ xs.length → I n s → ∃ o, forO f (xs.drop n) s = some o ∧ Res (I xs.length) Q o from fun {s} h0 => by simpa using g 0 s (Nat.zero_le _) h0
  intro n
  generalize hk : xs.length - n = k
  induction k generalizing n with
  | zero =>
    intro s hn hI
    have e : n = xs.length := by omega
    subst e
    rw [List.drop_length]
    exact ⟨.nx s, rfl, hI⟩
  | succ k ih =>
    intro s hn hI
    have hlt : n < xs.length := by omega
    obtain ⟨o, h1, h2⟩ := h n s xs[n] (List.getElem?_eq_getElem hlt) hI
    rw [List.drop_eq_getElem_cons hlt]
    cases o with
    | nx s' =>
      obtain ⟨o2, h3, h4⟩ := ih (n + 1) (by omega) s' (by omega) h2
      refine ⟨o2, ?_, h4⟩
      show (f s xs[n]).bind (seqO (forO f (xs.drop (n + 1)))) = _
      rw [h1]
      exact h3
    | rt r =>
      refine ⟨.rt r, ?_, h2⟩
      show (f s xs[n]).bind (seqO (forO f (xs.drop (n + 1)))) = _
      rw [h1]; rfl
theorem whileO_res {S R : Type} {c : S → Option Bool} {f : S → Option (Out S R)} (I : S → Prop) (μ : S → Nat) (Q : R → Prop) (h : ∀ s, I s → ∃ t, c s = some t ∧ (t = true → ∃ o, f s = some o ∧ Res (fun s' => I s' ∧ μ s' < μ s) Q o)) :
    ∀ (n : Nat) (s : S), μ s < n → I s → ∃ o, whileO c f n s = some o ∧ Res (fun s' => I s' ∧ c s' = some false) Q o := by
  intro n
  induction n with
  | zero => intro s hs; omega
  | succ n ih =>
    intro s hs hI
    obtain ⟨t, h1, h2⟩ := h s hI
    cases t with
    | false => exact ⟨.nx s, by show (c s).bind _ = _; rw [h1]; rfl, hI, h1⟩
    | true =>
      obtain ⟨o, h3, h4⟩ := h2 rfl
      cases o with
      | nx s' =>
        obtain ⟨o2, h6, h7⟩ := ih s' (by have := h4.2; omega) h4.1
        refine ⟨o2, ?_, h7⟩
        show (c s).bind _ = _
        rw [h1]
        show (f s).bind (seqO (whileO c f n)) = _
        rw [h3]
        exact h6
      | rt r =>
        refine ⟨.rt r, ?_, h4⟩
        show (c s).bind _ = _
        rw [h1]
        show (f s).bind (seqO (whileO c f n)) = _
        rw [h3]; rfl
theorem ex_whileR {S S' R T : Type} {t : S → Option Bool} {f : S → Option (Out S R)} {n : Nat} {s : S} {k : S → Option (Out S' R)} {c : Out S' R → Option T} {P : T → Prop} (I : S → Prop) (μ : S → Nat) (Q : R → Prop) (h0 : I s) (hm : μ s < n)
    (h : ∀ s, I s → ∃ b, t s = some b ∧ (b = true → ∃ o, f s = some o ∧ Res (fun s' => I s' ∧ μ s' < μ s) Q o)) (hn : ∀ s', I s' → t s' = some false → ∃ r, (k s').bind c = some r ∧ P r) (hr : ∀ q, Q q → ∃ r, c (.rt q) = some r ∧ P r) : ∃ r, (((whileO t f n s).bind (seqO k)).bind c) = some r ∧ P r := by
  obtain ⟨o, e, h1⟩ := whileO_res I μ Q h n s hm h0
  rw [e]
  cases o with
  | nx s' => exact hn s' h1.1 h1.2
  | rt r => exact hr r h1
theorem ex_whileRI {S S' R : Type} {t : S → Option Bool} {f : S → Option (Out S R)} {n : Nat} {s : S} {k : S → Option (Out S' R)} {P : Out S' R → Prop} (I : S → Prop) (μ : S → Nat) (Q : R → Prop) (h0 : I s) (hm : μ s < n)
    (h : ∀ s, I s → ∃ b, t s = some b ∧ (b = true → ∃ o, f s = some o ∧ Res (fun s' => I s' ∧ μ s' < μ s) Q o)) (hn : ∀ s', I s' → t s' = some false → ∃ r, k s' = some r ∧ P r) (hr : ∀ q, Q q → P (.rt q)) : ∃ r, (whileO t f n s).bind (seqO k) = some r ∧ P r := by
  obtain ⟨o, e, h1⟩ := whileO_res I μ Q h n s hm h0
  rw [e]
  cases o with
  | nx s' => exact hn s' h1.1 h1.2
  | rt r => exact ⟨_, rfl, hr r h1⟩
theorem ex_forR {α S S' R T : Type} {f : S → α → Option (Out S R)} {xs : List α} {s : S} {k : S → Option (Out S' R)} {c : Out S' R → Option T} {P : T → Prop} (I : Nat → S → Prop) (Q : R → Prop) (h0 : I 0 s) (h : ∀ i s x, xs[i]? = some x → I i s → ∃ o, f s x = some o ∧ Res (I (i + 1)) Q o)
    (hn : ∀ s', I xs.length s' → ∃ r, (k s').bind c = some r ∧ P r) (hr : ∀ q, Q q → ∃ r, c (.rt q) = some r ∧ P r) : ∃ r, (((forO f xs s).bind (seqO k)).bind c) = some r ∧ P r := by
  obtain ⟨o, e, h1⟩ := forO_res I Q h h0
  rw [e]
  cases o with
  | nx s' => exact hn s' h1
  | rt r => exact hr r h1
theorem ex_forRI {α S S' R : Type} {f : S → α → Option (Out S R)} {xs : List α} {s : S} {k : S → Option (Out S' R)} {P : Out S' R → Prop} (I : Nat → S → Prop) (Q : R → Prop) (h0 : I 0 s) (h : ∀ i s x, xs[i]? = some x → I i s → ∃ o, f s x = some o ∧ Res (I (i + 1)) Q o)
    (hn : ∀ s', I xs.length s' → ∃ r, k s' = some r ∧ P r) (hr : ∀ q, Q q → P (.rt q)) : ∃ r, (forO f xs s).bind (seqO k) = some r ∧ P r := by
  obtain ⟨o, e, h1⟩ := forO_res I Q h h0
  rw [e]
  cases o with
  | nx s' => exact hn s' h1
  | rt r => exact ⟨_, rfl, hr r h1⟩
theorem mem_keys {α : Type} {kvs : List (Int × α)} {k : Int} {v : α} (h : (k, v) ∈ kvs) : k ∈ keysD kvs := List.mem_map.mpr ⟨_, h, rfl⟩
end Cw
/- PWhole -/
namespace Cw
open PySem PySem.Spec L2
open PyProof.Rows hiding St
@[simp] theorem whole_t (x : Int) : m_law_whole x = some true := by
  unfold m_law_whole mo_law_whole
  simp
end Cw
/- PSame -/
namespace Cw
open PySem PySem.Spec L2
open PyProof.Rows hiding St
/- same two games -/
theorem same_t {xs : List Pl} (hl : xs.length ≤ 1000) : m_law_same xs xs = some true := by
  apply some_of
  unfold m_law_same mo_law_same
  simp only [obs, oNot_s, bind2_ss, pLen_eq, pNe_eq, oOr_ss, decide_true, Bool.not_true, Bool.or_false, Bool.false_eq_true, if_false]
  rw [pRng_p (by omega) (by omega)]
  refine ex_for (fun _ _ => True) trivial ?_ ?_
  · intro i s x hx _
    obtain ⟨hi, rfl⟩ := upF_at hx
    obtain ⟨a, ha, _⟩ := atI_ex (xs := xs) (i := 0 + (i : Int)) (by omega) (by omega)
    refine ⟨(), ?_, trivial⟩
    simp only [ha, obs, bind2_ss, pCons_eq, whole_t, oNot_s, pNe_eq, pNeG_eq, oOr_ss, decide_true, Bool.not_true, Bool.or_false, Bool.false_eq_true, if_false]
    rw [forO_all (p := fun _ => true) (r := false) fun _ _ => rfl]
    simp
  · intro s _
    exact ⟨true, rfl, rfl⟩
end Cw
/- PSem: what a wish means: lists of marks, least and greatest ones by turns. -/
namespace Cw
open PySem PySem.Spec L2
open PyProof.Rows hiding St
def Wf : List Str → Wish → Prop
  | _, .i k _ => k = "is" ∨ k = "not"
  | ns, .s k n => k = "name" ∧ n ∈ ns
  | ns, .u k a => (k = "all" ∨ k = "some") ∧ Wf ns a
  | ns, .b k a c => (k = "and" ∨ k = "or") ∧ Wf ns a ∧ Wf ns c
  | ns, .q k n a => (k = "least" ∨ k = "most") ∧ Wf (ns ++ [n]) a
def dp : Wish → Nat
  | .i _ _ => 1
  | .s _ _ => 1
  | .u _ a => dp a + 1
  | .b _ a c => max (dp a) (dp c) + 1
  | .q _ _ a => dp a + 1
def sz : Wish → Int
  | .i _ _ => 1
  | .s _ _ => 1
  | .u _ a => 1 + sz a
  | .b _ a c => 1 + (sz a + sz c)
  | .q _ _ a => 1 + sz a
def kids : Wish → List Wish
  | .i _ _ => []
  | .s _ _ => []
  | .u _ a => [a]
  | .b _ a c => [a, c]
  | .q _ _ a => [a]
theorem dp_pos : ∀ w : Wish, 1 ≤ dp w
  | .i _ _ => Nat.le_refl _
  | .s _ _ => Nat.le_refl _
  | .u _ a => Nat.le_add_left _ _
  | .b _ a c => Nat.le_add_left _ _
  | .q _ _ a => Nat.le_add_left _ _
/- by turns -/
def itN {α : Type} (f : α → α) : Nat → α → α
  | 0, x => x
  | n + 1, x => f (itN f n x)
def upR (ρ : Str → List Bool) (n : Str) (v : List Bool) : Str → List Bool := fun m => if m = n then v else ρ m
def sem (g : List Pl) : Wish → (Str → List Bool) → List Bool
  | .i k c, _ => g.map fun p => if k = "is" then decide (p.2.1 = c) else !decide (p.2.1 = c)
  | .s _ n, ρ => ρ n
  | .u k a, ρ => g.map fun p => if k = "all" then p.2.2.all (fun w => (sem g a ρ).getD w.toNat false) else p.2.2.any (fun w => (sem g a ρ).getD w.toNat false)
  | .b k a c, ρ => (upF 0 g.length).map fun i => if k = "and" then (sem g a ρ).getD i.toNat false && (sem g c ρ).getD i.toNat false else (sem g a ρ).getD i.toNat false || (sem g c ρ).getD i.toNat false
  | .q k n a, ρ => itN (fun v => sem g a (upR ρ n v)) (g.length + 1) (List.replicate g.length (decide (k = "most")))
def leB (u v : List Bool) : Prop := ∀ i : Nat, u.getD i false = true → v.getD i false = true
theorem leB.refl (u : List Bool) : leB u u := fun _ h => h
theorem getD_map {α : Type} {g : List α} {f : α → Bool} {i : Nat} : (g.map f).getD i false = (match g[i]? with | some p => f p | none => false) := by
  rw [List.getD_eq_getElem?_getD, List.getElem?_map]
  cases g[i]? <;> rfl
theorem leB_map {α : Type} {g : List α} {f f' : α → Bool} (h : ∀ p ∈ g, f p = true → f' p = true) : leB (g.map f) (g.map f') := by
  intro i
  rw [getD_map, getD_map]
  cases e : g[i]? with
  | none => exact id
  | some p => exact h p (List.mem_of_getElem? e)
theorem itN_mono {f f' : List Bool → List Bool} (h : ∀ u v, leB u v → leB (f u) (f' v)) {x y : List Bool} (hx : leB x y) : ∀ n, leB (itN f n x) (itN f' n y)
  | 0 => hx
  | n + 1 => h _ _ (itN_mono h hx n)
theorem upR_mono {ρ ρ' : Str → List Bool} (h : ∀ m, leB (ρ m) (ρ' m)) {n : Str} {u v : List Bool} (hv : leB u v) : ∀ m, leB (upR ρ n u m) (upR ρ' n v m) := fun m => by
  unfold upR
  split
  · exact hv
  · exact h m
theorem sem_mono (g : List Pl) : ∀ (w : Wish) {ρ ρ' : Str → List Bool}, (∀ m, leB (ρ m) (ρ' m)) → leB (sem g w ρ) (sem g w ρ')
  | .i _ _, _, _, _ => leB.refl _
  | .s _ n, _, _, h => h n
  | .u k a, ρ, ρ', h => by
    have ih := sem_mono g a h
    refine leB_map fun p _ => ?_
    split
    · intro q
      rw [List.all_eq_true] at q ⊢
      exact fun x hx => ih _ (q x hx)
    · intro q
      rw [List.any_eq_true] at q ⊢
      obtain ⟨x, hx, q⟩ := q
      exact ⟨x, hx, ih _ q⟩
  | .b k a c, ρ, ρ', h => by
    have ih1 := sem_mono g a h
    have ih2 := sem_mono g c h
    refine leB_map fun i _ => ?_
    split
    · intro q
      rw [Bool.and_eq_true] at q ⊢
      exact ⟨ih1 _ q.1, ih2 _ q.2⟩
    · intro q
      rw [Bool.or_eq_true] at q ⊢
      exact q.elim (fun z => .inl (ih1 _ z)) fun z => .inr (ih2 _ z)
  | .q k n a, ρ, ρ', h => itN_mono (fun u v huv => sem_mono g a (upR_mono h huv)) (leB.refl _) _
theorem itN_len {f : List Bool → List Bool} {m : Nat} (h : ∀ v : List Bool, v.length = m → (f v).length = m) {x : List Bool} (hx : x.length = m) : ∀ n, (itN f n x).length = m
  | 0 => hx
  | n + 1 => h _ (itN_len h hx n)
theorem upR_len {ρ : Str → List Bool} {m : Nat} (h : ∀ k, (ρ k).length = m) {n : Str} {v : List Bool} (hv : v.length = m) : ∀ k, (upR ρ n v k).length = m := fun k => by
  unfold upR
  split
  · exact hv
  · exact h k
theorem sem_len (g : List Pl) : ∀ (w : Wish) {ρ : Str → List Bool}, (∀ m, (ρ m).length = g.length) → (sem g w ρ).length = g.length
  | .i _ _, _, _ => List.length_map _
  | .s _ n, _, h => h n
  | .u _ _, _, _ => List.length_map _
  | .b _ _ _, _, _ => by show (List.map _ _).length = _; rw [List.length_map, upF_len]
  | .q _ n a, ρ, h => itN_len (fun v hv => sem_len g a (upR_len h hv)) List.length_replicate _
/- the turns come to rest -/
theorem count_le : ∀ {u v : List Bool}, u.length = v.length → leB u v → u.count true ≤ v.count true
  | [], [], _, _ => Nat.le_refl _
  | a :: u, c :: v, hl, h => by
    have ih := count_le (u := u) (v := v) (by simpa using hl) fun i => h (i + 1)
    have h0 : a = true → c = true := h 0
    cases a <;> cases c <;> simp_all
    omega
theorem count_lt : ∀ {u v : List Bool}, u.length = v.length → leB u v → u ≠ v → u.count true < v.count true
  | [], [], _, _, n => absurd rfl n
  | a :: u, c :: v, hl, h, n => by
    have hl' : u.length = v.length := by simpa using hl
    have h' : leB u v := fun i => h (i + 1)
    have hle := count_le hl' h'
    have h0 : a = true → c = true := h 0
    by_cases e : a = c
    · subst e
      have ih := count_lt hl' h' fun z => n (by rw [z])
      cases a <;> simp_all
    · cases a <;> cases c <;> simp_all
      omega
theorem chain_up {x : Nat → List Bool} {n : Nat} (hl : ∀ i, (x i).length = n) (h : ∀ i, leB (x i) (x (i + 1))) : ∃ k, k ≤ n ∧ x (k + 1) = x k := by
  refine Classical.byContradiction fun z => ?_
  have key : ∀ k, k ≤ n + 1 → k ≤ (x k).count true := by
    intro k
    induction k with
    | zero => intro _; omega
    | succ k ih =>
      intro hk
      have a := ih (by omega)
      have c := count_lt (u := x k) (v := x (k + 1)) (by rw [hl, hl]) (h k) fun e => z ⟨k, by omega, e.symm⟩
      omega
  have a := key (n + 1) (Nat.le_refl _)
  have c : (x (n + 1)).count true ≤ (x (n + 1)).length := List.count_le_length
  rw [hl] at c
  omega
theorem chain_dn {x : Nat → List Bool} {n : Nat} (hl : ∀ i, (x i).length = n) (h : ∀ i, leB (x (i + 1)) (x i)) : ∃ k, k ≤ n ∧ x (k + 1) = x k := by
  refine Classical.byContradiction fun z => ?_
  have key : ∀ k, k ≤ n + 1 → (x k).count true + k ≤ n := by
    intro k
    induction k with
    | zero =>
      intro _
      have c : (x 0).count true ≤ (x 0).length := List.count_le_length
      rw [hl] at c
      omega
    | succ k ih =>
      intro hk
      have a := ih (by omega)
      have c := count_lt (u := x (k + 1)) (v := x k) (by rw [hl, hl]) (h k) fun e => z ⟨k, by omega, e⟩
      omega
  have a := key (n + 1) (Nat.le_refl _)
  omega
theorem itN_rest {α : Type} {f : α → α} {x : α} {k : Nat} (h : itN f (k + 1) x = itN f k x) : ∀ m, itN f (k + m) x = itN f k x
  | 0 => rfl
  | m + 1 => by
    show f (itN f (k + m) x) = _
    rw [itN_rest h m]; exact h
theorem rep_getD {n : Nat} {t : Bool} {i : Nat} : (List.replicate n t).getD i false = (decide (i < n) && t) := by
  rw [List.getD_eq_getElem?_getD, List.getElem?_replicate]
  by_cases h : i < n
  · rw [if_pos h]; simp [h]
  · rw [if_neg h]; simp [h]
theorem leB_bot {n : Nat} {v : List Bool} : leB (List.replicate n false) v := fun i h => by rw [rep_getD] at h; simp at h
theorem leB_top {n : Nat} {v : List Bool} (h : v.length = n) : leB v (List.replicate n true) := fun i hi => by
  rw [rep_getD]
  have : i < n := by
    refine Classical.byContradiction fun z => ?_
    rw [List.getD_eq_getElem?_getD, List.getElem?_eq_none (by omega)] at hi
    cases hi
  simp [this]
/- the turns of a least or greatest wish come to rest within as many turns as there are places -/
theorem turns_rest {f : List Bool → List Bool} {n : Nat} (hm : ∀ u v, leB u v → leB (f u) (f v)) (hl : ∀ v : List Bool, v.length = n → (f v).length = n) (t : Bool) : ∃ k, k ≤ n ∧ itN f (k + 1) (List.replicate n t) = itN f k (List.replicate n t) := by
  have hlen := itN_len hl (x := List.replicate n t) List.length_replicate
  cases t with
  | false =>
    refine chain_up hlen fun i => ?_
    induction i with
    | zero => exact leB_bot
    | succ i ih => exact hm _ _ ih
  | true =>
    refine chain_dn hlen fun i => ?_
    induction i with
    | zero => exact leB_top (hlen 1)
    | succ i ih => exact hm _ _ ih
theorem loop_t {R : Type} {F : List Bool → List Bool} {x0 : List Bool} {f : List Bool × Bool → Option (Out (List Bool × Bool) R)} {K : Nat} (hK : itN F (K + 1) x0 = itN F K x0)
    (hf : ∀ i, f (itN F i x0, true) = some (.nx (itN F (i + 1) x0, !decide (itN F (i + 1) x0 = itN F i x0)))) : ∀ (m j fuel : Nat), j + m = K → m + 2 ≤ fuel → ∃ k, k ≤ K ∧ itN F (k + 1) x0 = itN F k x0 ∧ whileO (fun s => some s.2) f fuel (itN F j x0, true) = some (.nx (itN F k x0, false)) := by
  intro m
  induction m with
  | zero =>
    intro j fuel hj hfu
    have hj : j = K := by omega
    subst hj
    obtain ⟨fu, rfl⟩ : ∃ fu, fuel = fu + 2 := ⟨fuel - 2, by omega⟩
    refine ⟨j, Nat.le_refl _, hK, ?_⟩
    show (f (itN F j x0, true)).bind (seqO (whileO _ f (fu + 1))) = _
    rw [hf, obs, seqO_nx, hK, decide_eq_true rfl]
    rfl
  | succ m ih =>
    intro j fuel hj hfu
    obtain ⟨fu, rfl⟩ : ∃ fu, fuel = fu + 2 := ⟨fuel - 2, by omega⟩
    by_cases e : itN F (j + 1) x0 = itN F j x0
    · refine ⟨j, by omega, e, ?_⟩
      show (f (itN F j x0, true)).bind (seqO (whileO _ f (fu + 1))) = _
      rw [hf, obs, seqO_nx, e, decide_eq_true rfl]
      rfl
    · obtain ⟨k, k1, k2, k3⟩ := ih (j + 1) (fu + 1) (by omega) (by omega)
      refine ⟨k, k1, k2, ?_⟩
      show (f (itN F j x0, true)).bind (seqO (whileO _ f (fu + 1))) = _
      rw [hf, obs, seqO_nx, decide_eq_false e]
      exact k3
end Cw
/- PWish: wishes by the program's defs and the law's: parts, signs, names bound, the drawn wish. -/
namespace Cw
open PySem PySem.Spec L2
open PyProof.Rows hiding St
theorem parts_t : ∀ {w : Wish} {ns : List Str}, Wf ns w → m_parts_of w = some (kids w)
  | .i k c, ns, h => by rcases h with rfl | rfl <;> rfl
  | .s k n, ns, ⟨h, _⟩ => by cases h; rfl
  | .u k a, ns, ⟨h, _⟩ => by rcases h with rfl | rfl <;> rfl
  | .b k a c, ns, ⟨h, _⟩ => by rcases h with rfl | rfl <;> rfl
  | .q k n a, ns, ⟨h, _⟩ => by rcases h with rfl | rfl <;> rfl
theorem law_parts_t : ∀ {w : Wish} {ns : List Str}, Wf ns w → m_law_parts w = some (kids w)
  | .i k c, ns, h => by rcases h with rfl | rfl <;> rfl
  | .s k n, ns, ⟨h, _⟩ => by cases h; rfl
  | .u k a, ns, ⟨h, _⟩ => by rcases h with rfl | rfl <;> rfl
  | .b k a c, ns, ⟨h, _⟩ => by rcases h with rfl | rfl <;> rfl
  | .q k n a, ns, ⟨h, _⟩ => by rcases h with rfl | rfl <;> rfl
theorem kids_len (w : Wish) : (kids w).length ≤ 2 := by cases w <;> simp [kids]
theorem kids_dp : ∀ {w : Wish}, ∀ x ∈ kids w, dp x + 1 ≤ dp w
  | .i _ _, x, h => by simp [kids] at h
  | .s _ _, x, h => by simp [kids] at h
  | .u _ a, x, h => by rw [List.mem_singleton.mp h]; exact Nat.le_refl _
  | .b _ a c, x, h => by
    show _ ≤ max (dp a) (dp c) + 1
    rcases List.mem_cons.mp h with rfl | h
    · omega
    · rw [List.mem_singleton.mp h]; omega
  | .q _ _ a, x, h => by rw [List.mem_singleton.mp h]; exact Nat.le_refl _
/- the names that the parts of a wish may use -/
def inn (ns : List Str) : Wish → List Str
  | .q _ n _ => ns ++ [n]
  | _ => ns
theorem kids_wf : ∀ {w : Wish} {ns : List Str}, Wf ns w → ∀ x ∈ kids w, Wf (inn ns w) x
  | .i _ _, _, _, x, h => by simp [kids] at h
  | .s _ _, _, _, x, h => by simp [kids] at h
  | .u _ a, _, w, x, h => by rw [List.mem_singleton.mp h]; exact w.2
  | .b _ a c, _, w, x, h => by
    rcases List.mem_cons.mp h with rfl | h
    · exact w.2.1
    · rw [List.mem_singleton.mp h]; exact w.2.2
  | .q _ n a, _, w, x, h => by rw [List.mem_singleton.mp h]; exact w.2
theorem kids_sz (w : Wish) : 1 + ((kids w).map sz).sum = sz w := by cases w <;> simp [kids, sz]
theorem law_signs_t : ∀ (d : Nat) {w : Wish} {ns : List Str}, Wf ns w → dp w ≤ d → m_law_signs d w = some (sz w)
  | 0, w, _, _, h => by have := dp_pos w; omega
  | d + 1, w, ns, hw, h => by
    show (mo_law_signs (m_law_signs d) w).bind outR = _
    unfold mo_law_signs
    have hl := kids_len w
    simp only [obs, bind2_ss, pCons_eq, law_parts_t hw]
    rw [lcO_map (g := sz) (fun x hx => law_signs_t d (kids_wf hw x hx) (by have := kids_dp x hx; omega)), obs, pMany_p (by rw [List.length_map]; omega)]
    simp only [obs, pSum_eq, bind2_ss, pAdd_eq, outR_rt, kids_sz]
theorem inS_iff {a : Str} {xs : List Str} : inS a xs = true ↔ a ∈ xs := by
  unfold inS
  rw [List.any_eq_true]
  constructor
  · rintro ⟨y, h1, h2⟩; have : y = a := by simpa using h2
    subst this; exact h1
  · intro h; exact ⟨a, h, by simp⟩
/- the drawn wish -/
theorem spot_ex (s : List Int) {a c : Int} (h : 0 ≤ a) : ∃ v, m_law_spot s [a, c] = some (v, [a + 1, c]) := by
  obtain ⟨v, e⟩ := pick_ex s (k := a + 1) (by omega)
  refine ⟨v, ?_⟩
  unfold m_law_spot mo_law_spot
  have e1 : atI [a, c] 0 = some a := rfl
  have e2 : setI [a, c] 0 (a + 1) = some [a + 1, c] := rfl
  have e3 : atI [a + 1, c] 0 = some (a + 1) := rfl
  simp only [obs, bind2_ss, pCons_eq, e1, pAdd_eq, e2, e3, e]
  rfl
theorem pNe0_nil {α β : Type} (xs : List α) : pNe0 xs ([] : List β) = some (!xs.isEmpty) := rfl
theorem wish_ex (s : List Int) {crowns : List Int} (hc : crowns ≠ []) (hcl : crowns.length ≤ 1000) : ∀ (d : Nat) (names : List Str) (a b' deep : Int), 0 ≤ deep → deep < d → 0 ≤ a → names.length + d ≤ 900 →
    ∃ w a' b'', m_law_wish d s [a, b'] names crowns deep = some (w, [a', b'']) ∧ 0 ≤ a' ∧ Wf names w ∧ (dp w : Int) ≤ deep + 1
  | 0, _, _, _, _, h0, h1, _, _ => by omega
  | d + 1, names, a, b', deep, h0, h1, ha, hn => by
    have IH := wish_ex s hc hcl d
    show ∃ w a' b'', mo_law_wish (m_law_wish d) s [a, b'] names crowns deep = some (w, [a', b'']) ∧ _
    obtain ⟨v, ev⟩ := spot_ex s (a := a) (c := b') ha
    obtain ⟨num, en, n0, _⟩ := mix_ex v (a + 1)
    unfold mo_law_wish
    have e3 : atI [a + 1, b'] 0 = some (a + 1) := rfl
    have e4 : atI [a + 1, b'] 1 = some b' := rfl
    have e5 : setI [a + 1, b'] 1 (b' - 1) = some [a + 1, b' - 1] := rfl
    have e6 : atI [a + 1, b' - 1] 1 = some (b' - 1) := rfl
    have k0 := Int.emod_nonneg num (show (9 : Int) ≠ 0 by decide)
    have k1 := Int.emod_lt_of_pos num (show (0 : Int) < 9 by decide)
    simp only [qb, qCall, qCallM, qCons, qRet, qMap, qTup2, qTup3, obs, bind2_ss, ev, e3, e4, e5, e6, en, pMod_p (j := 9) (by decide), pSub_eq, pLt_eq, pEq_eq, oOr_ss, pCons_eq]
    generalize num % 9 = kind at k0 k1
    by_cases c1 : (decide (deep < 1) || (decide (b' - 1 < 2) || decide (kind = 0))) = true
    · rw [if_pos c1]
      have z0 := Int.emod_nonneg (num / 27) (show (2 : Int) ≠ 0 by decide)
      have z1 := Int.emod_lt_of_pos (num / 27) (show (0 : Int) < 2 by decide)
      simp only [pFew_p (xs := ([] : List Str)) (by simp), obs, bind2_ss, pNe0_nil, pDiv_p (j := 9) (by decide), pDiv_p (j := 27) (by decide), pDiv_p (j := 54) (by decide), pDiv_p (j := 540) (by decide), pMod_p (j := 3) (by decide), pMod_p (j := 2) (by decide), pMod_p (j := 8) (by decide), pGt_eq, oAnd_ss, pLen_eq, pEq_eq, pInt1_eq, pFew_p (xs := ([("is" : Str), "not"])) (by simp)]
      by_cases c2 : (!names.isEmpty && decide (0 < num / 9 % 3)) = true
      · rw [if_pos c2]
        have hne : names ≠ [] := fun z => by rw [z] at c2; simp at c2
        have hl : 0 < names.length := List.length_pos_iff.mpr hne
        obtain ⟨n, e7, _, hm⟩ := atI_ex (xs := names) (i := num / 27 % (names.length : Int)) (Int.emod_nonneg _ (by omega)) (Int.emod_lt_of_pos _ (by omega))
        rw [pMod_p (by omega), bind2_ss, e7, bind2_ss]
        exact ⟨.s "name" n, _, _, rfl, by omega, ⟨rfl, hm⟩, by show ((1 : Nat) : Int) ≤ _; omega⟩
      · rw [if_neg c2]
        have hl : 0 < crowns.length := List.length_pos_iff.mpr hc
        obtain ⟨k, e7, _, hk⟩ := atI_ex (xs := ([("is" : Str), "not"])) (i := num / 27 % 2) z0 z1
        obtain ⟨cr, e8, _, _⟩ := atI_ex (xs := crowns) (i := num / 54 % (crowns.length : Int)) (Int.emod_nonneg _ (by omega)) (Int.emod_lt_of_pos _ (by omega))
        rw [pMod_p (by omega), bind2_ss, e7, e8, bind2_ss, pAdd_eq, bind2_ss]
        exact ⟨.i k _, _, _, rfl, by omega, (show k = "is" ∨ k = "not" from by simpa using hk), by show ((1 : Nat) : Int) ≤ _; omega⟩
    · rw [if_neg c1]
      simp only [Bool.or_eq_true, decide_eq_true_eq, not_or] at c1
      obtain ⟨c1, c2, c3⟩ := c1
      have IH' := fun nm x y h => IH nm x y (deep - 1) (by omega) (by omega) h
      by_cases d1 : kind < 3
      · rw [if_pos (by simpa using d1)]
        obtain ⟨w1, a1, b1, f1, f2, f3, f4⟩ := IH' names (a + 1) (b' - 1) (by omega) (by omega)
        obtain ⟨w2, a2, b2, g1, g2, g3, g4⟩ := IH' names a1 b1 f2 (by omega)
        obtain ⟨k, e7, _, hk⟩ := atI_ex (xs := ([("and" : Str), "or"])) (i := kind - 1) (by omega) (by show _ < (2 : Int); omega)
        simp only [f1, g1, obs, pFew_p (xs := ([("and" : Str), "or"])) (by simp), bind2_ss, e7]
        exact ⟨.b k w1 w2, _, _, rfl, g2, ⟨by simpa using hk, f3, g3⟩, by show ((max (dp w1) (dp w2) + 1 : Nat) : Int) ≤ _; omega⟩
      · rw [if_neg (by simpa using d1)]
        by_cases d2 : kind < 5
        · rw [if_pos (by simpa using d2)]
          obtain ⟨w1, a1, b1, f1, f2, f3, f4⟩ := IH' names (a + 1) (b' - 1) (by omega) (by omega)
          obtain ⟨k, e7, _, hk⟩ := atI_ex (xs := ([("all" : Str), "some"])) (i := kind - 3) (by omega) (by show _ < (2 : Int); omega)
          simp only [f1, obs, pFew_p (xs := ([("all" : Str), "some"])) (by simp), bind2_ss, e7]
          exact ⟨.u k w1, _, _, rfl, f2, ⟨by simpa using hk, f3⟩, by show ((dp w1 + 1 : Nat) : Int) ≤ _; omega⟩
        · rw [if_neg (by simpa using d2)]
          have z0 := Int.emod_nonneg (num / 9) (show (4 : Int) ≠ 0 by decide)
          have z1 := Int.emod_lt_of_pos (num / 9) (show (0 : Int) < 4 by decide)
          obtain ⟨n, e8, _, _⟩ := atI_ex (xs := ([("a" : Str), "bb", "xyz", "a"])) (i := num / 9 % 4) z0 z1
          obtain ⟨w1, a1, b1, f1, f2, f3, f4⟩ := IH' (names ++ [n]) (a + 1) (b' - 1) (by omega) (by rw [List.length_append]; simp; omega)
          obtain ⟨k, e7, _, hk⟩ := atI_ex (xs := ([("least" : Str), "most", "least", "most"])) (i := kind - 5) (by omega) (by show _ < (4 : Int); omega)
          simp only [obs, pFew_p (xs := ([("a" : Str), "bb", "xyz", "a"])) (by simp), pFew_p (xs := ([("least" : Str), "most", "least", "most"])) (by simp), bind2_ss, pDiv_p (j := 9) (by decide), pMod_p (j := 4) (by decide), e8, pFew_p (xs := [n]) (by simp)]
          rw [pCat_p (by simp; omega)]
          simp only [obs, f1, e7]
          exact ⟨.q k n w1, _, _, rfl, f2, ⟨by simp at hk; rcases hk with h | h | h | h <;> simp [h], f3⟩, by show ((dp w1 + 1 : Nat) : Int) ≤ _; omega⟩
end Cw
/- PWhere: the program's places of a wish and the law's are what the wish means. -/
namespace Cw
open PySem PySem.Spec L2
open PyProof.Rows hiding St
/- dicts with text keys -/
theorem lookS_cons {α : Type} {p : Str × α} {kvs : List (Str × α)} {m : Str} : lookS (p :: kvs) m = if p.1 = m then some p.2 else lookS kvs m := by
  unfold lookS
  by_cases e : p.1 = m
  · rw [List.find?_cons_of_pos (p := fun p : Str × α => decide (p.1 = m)) (by simpa using e), if_pos e]; rfl
  · rw [List.find?_cons_of_neg (p := fun p : Str × α => decide (p.1 = m)) (by simpa using e), if_neg e]
theorem lookS_map {α : Type} {k m : Str} {v : α} : ∀ {kvs : List (Str × α)}, lookS (kvs.map fun p => if p.1 = k then (p.1, v) else p) m = if m = k then (lookS kvs m).map (fun _ => v) else lookS kvs m
  | [] => by
    show none = if m = k then none else none
    split <;> rfl
  | p :: r => by
    rw [List.map_cons, lookS_cons, lookS_cons, lookS_map]
    by_cases a : p.1 = k
    · rw [if_pos a]
      by_cases c : p.1 = m
      · rw [if_pos c, if_pos c, if_pos (c.symm.trans a)]; rfl
      · rw [if_neg c, if_neg c]
    · rw [if_neg a]
      by_cases c : p.1 = m
      · rw [if_pos c, if_pos c, if_neg (fun z => a (c.trans z))]
      · rw [if_neg c, if_neg c]
theorem lookS_app {α : Type} {k m : Str} {v : α} : ∀ {kvs : List (Str × α)}, lookS (kvs ++ [(k, v)]) m = match lookS kvs m with | some x => some x | none => if k = m then some v else none
  | [] => by rw [List.nil_append, lookS_cons]; rfl
  | p :: r => by
    rw [List.cons_append, lookS_cons, lookS_cons, lookS_app]
    split <;> rfl
theorem lookS_none {α : Type} {k : Str} : ∀ {kvs : List (Str × α)}, (kvs.any fun p => decide (p.1 = k)) = (lookS kvs k).isSome
  | [] => rfl
  | p :: r => by
    rw [List.any_cons, lookS_cons, lookS_none]
    by_cases e : p.1 = k
    · rw [if_pos e]; simp [e]
    · rw [if_neg e]; simp [e]
theorem lookS_put {α : Type} {kvs : List (Str × α)} {k m : Str} {v : α} : lookS (putS kvs k v) m = if m = k then some v else lookS kvs m := by
  unfold putS
  rw [lookS_none]
  cases e : lookS kvs k with
  | some x =>
    rw [if_pos (show (some x).isSome = true from rfl), lookS_map]
    by_cases c : m = k
    · rw [if_pos c, if_pos c, c, e]; rfl
    · rw [if_neg c, if_neg c]
  | none =>
    rw [if_neg (by simp), lookS_app]
    by_cases c : m = k
    · rw [if_pos c, c, e, if_pos rfl]
    · rw [if_neg c, if_neg (Ne.symm c)]
      cases lookS kvs m <;> rfl
theorem putS_len {α : Type} {kvs : List (Str × α)} {k : Str} {v : α} : (putS kvs k v).length ≤ kvs.length + 1 := by
  unfold putS
  split
  · rw [List.length_map]; omega
  · rw [List.length_append]; exact Nat.le_refl _
theorem getD_at {v : List Bool} {w : Int} (h0 : 0 ≤ w) (h1 : w < v.length) : atI v w = some (v.getD w.toNat false) := by
  obtain ⟨a, e1, e2, _⟩ := atI_ex (xs := v) h0 h1
  rw [e1, List.getD_eq_getElem?_getD, e2]; rfl
section
variable {g : List Pl}
/- a game whose ways are places -/
structure WOk (g : List Pl) : Prop where
  few : g.length ≤ 1000
  rng : ∀ p ∈ g, ∀ x ∈ p.2.2, 0 ≤ x ∧ x < (g.length : Int)
  ways : ∀ p ∈ g, p.2.2.length ≤ 24
theorem outR_b {S R : Type} {m : Option R} {k : S → Option (Out Unit R)} : (((m.bind fun a => some (Out.rt a)).bind (seqO k)).bind outR) = m := by cases m <;> rfl
theorem outR_b' {R : Type} {m : Option R} : ((m.bind fun a => some (Out.rt a)).bind outR) = m := by cases m <;> rfl
theorem step_t {k : Str} {v : List Bool} {ws : List Int} (hk : k = "all" ∨ k = "some") (hl : ws.length ≤ 24) (h : ∀ x ∈ ws, 0 ≤ x ∧ x < (v.length : Int)) : m_step_holds k v ws = some (if k = "all" then ws.all (fun w => v.getD w.toNat false) else ws.any (fun w => v.getD w.toNat false)) := by
  unfold m_step_holds mo_step_holds
  simp only [obs, bind2_ss, pEqS_eq, pAll_eq, pAny_eq]
  rw [lcO_map (g := fun w : Int => v.getD w.toNat false) (fun x hx => getD_at (h x hx).1 (h x hx).2), obs, pMany_p (by rw [List.length_map]; omega)]
  simp only [obs]
  by_cases c : k = "all"
  · rw [if_pos (by simpa using c), if_pos c, outR_b, pAll_eq, List.all_map]; rfl
  · rw [if_neg (by simpa using c), if_neg c, outR_b', pAny_eq, List.any_map]; rfl
theorem where_t (G : WOk g) : ∀ (w : Wish) (d : Nat) {ns : List Str} {ρ : Str → List Bool} {kvs : List (Str × List Bool)}, Wf ns w → dp w ≤ d → (∀ m, (ρ m).length = g.length) → (∀ m ∈ ns, lookS kvs m = some (ρ m)) → kvs.length + dp w ≤ 900 → m_where d g w kvs = some (sem g w ρ)
  | w, 0, _, _, _, _, h, _, _, _ => by have := dp_pos w; omega
  | .i k c, d + 1, ns, ρ, kvs, hw, h, hρ, hk, hn => by
    have hf := G.few
    show (mo_where (m_where d) g (.i k c) kvs).bind outR = _
    rcases hw with rfl | rfl
    · show ((((lcO (fun _ => some true) (fun place : Pl => pEq place.2.1 c) g).bind pMany).bind fun a => some (Out.rt a)).bind (seqO noE)).bind outR = some (g.map fun p => decide (p.2.1 = c))
      rw [outR_b, lcO_map (g := fun p : Pl => decide (p.2.1 = c)) (fun x _ => pEq_eq _ _), obs, pMany_p (by rw [List.length_map]; omega)]
    · show ((((lcO (fun _ => some true) (fun place : Pl => pNe place.2.1 c) g).bind pMany).bind fun a => some (Out.rt a)).bind (seqO noE)).bind outR = some (g.map fun p => !decide (p.2.1 = c))
      rw [outR_b, lcO_map (g := fun p : Pl => !decide (p.2.1 = c)) (fun x _ => pNe_eq _ _), obs, pMany_p (by rw [List.length_map]; omega)]
  | .s k n, d + 1, ns, ρ, kvs, hw, h, hρ, hk, hn => by
    obtain ⟨rfl, hm⟩ := hw
    show (((lookS kvs n).bind fun a => some (Out.rt a)).bind (seqO noE)).bind outR = some (ρ n)
    rw [outR_b, hk n hm]
  | .u k a, d + 1, ns, ρ, kvs, hw, h, hρ, hk, hn => by
    have hf := G.few
    obtain ⟨hkk, ha⟩ := hw
    have ea := where_t G a d ha (by show dp a ≤ d; exact Nat.le_of_succ_le_succ h) hρ hk (by have : dp a + 1 = dp (.u k a) := rfl; omega)
    have hl := sem_len g a hρ
    have key : ((((lcO (fun _ => some true) (fun place : Pl => m_step_holds k (sem g a ρ) place.2.2) g).bind pMany).bind fun a => some (Out.rt a)).bind (seqO noE)).bind outR = some (sem g (.u k a) ρ) := by
      rw [outR_b, lcO_map (g := fun p : Pl => if k = "all" then p.2.2.all (fun w => (sem g a ρ).getD w.toNat false) else p.2.2.any (fun w => (sem g a ρ).getD w.toNat false)) (fun p hp => step_t hkk (G.ways p hp) (by rw [hl]; exact G.rng p hp)), obs, pMany_p (by rw [List.length_map]; omega)]
      rfl
    show (mo_where (m_where d) g (.u k a) kvs).bind outR = _
    rcases hkk with rfl | rfl
    · show ((m_where d g a kvs).bind fun one => (((lcO (fun _ => some true) (fun place : Pl => m_step_holds "all" one place.2.2) g).bind pMany).bind fun a => some (Out.rt a)).bind (seqO noE)).bind outR = _
      rw [ea, obs]; exact key
    · show ((m_where d g a kvs).bind fun one => (((lcO (fun _ => some true) (fun place : Pl => m_step_holds "some" one place.2.2) g).bind pMany).bind fun a => some (Out.rt a)).bind (seqO noE)).bind outR = _
      rw [ea, obs]; exact key
  | .b k a c, d + 1, ns, ρ, kvs, hw, h, hρ, hk, hn => by
    have hf := G.few
    obtain ⟨hkk, ha, hc⟩ := hw
    have hd : max (dp a) (dp c) + 1 ≤ d + 1 := h
    have hn' : kvs.length + (max (dp a) (dp c) + 1) ≤ 900 := hn
    have ea := where_t G a d ha (by omega) hρ hk (by omega)
    have ec := where_t G c d hc (by omega) hρ hk (by omega)
    have la := sem_len g a hρ
    have lc := sem_len g c hρ
    have e0 : ∀ i ∈ upF 0 g.length, atI (sem g a ρ) i = some ((sem g a ρ).getD i.toNat false) ∧ atI (sem g c ρ) i = some ((sem g c ρ).getD i.toNat false) := fun i hi => by
      have := mem_upF.mp hi
      exact ⟨getD_at (by omega) (by rw [la]; omega), getD_at (by omega) (by rw [lc]; omega)⟩
    show (mo_where (m_where d) g (.b k a c) kvs).bind outR = _
    rcases hkk with rfl | rfl
    · show ((m_where d g a kvs).bind fun one => (m_where d g c kvs).bind fun other => ((((pLen g).bind pRng).bind fun xs => (lcO (fun _ => some true) (fun i => oAnd (atI one i) (atI other i)) xs).bind pMany).bind fun a => some (Out.rt a)).bind (seqO noE)).bind outR = _
      rw [ea, obs, ec, obs, outR_b, pLen_eq, obs, pRng_p (by omega) (by omega), obs, Int.toNat_natCast]
      rw [lcO_map (g := fun i : Int => (sem g a ρ).getD i.toNat false && (sem g c ρ).getD i.toNat false) (fun i hi => by rw [(e0 i hi).1, (e0 i hi).2, oAnd_ss]), obs, pMany_p (by rw [List.length_map, upF_len]; omega)]
      rfl
    · show ((m_where d g a kvs).bind fun one => (m_where d g c kvs).bind fun other => (((pLen g).bind pRng).bind fun xs => (lcO (fun _ => some true) (fun i => oOr (atI one i) (atI other i)) xs).bind pMany).bind fun a => some (Out.rt a)).bind outR = _
      rw [ea, obs, ec, obs, outR_b', pLen_eq, obs, pRng_p (by omega) (by omega), obs, Int.toNat_natCast]
      rw [lcO_map (g := fun i : Int => (sem g a ρ).getD i.toNat false || (sem g c ρ).getD i.toNat false) (fun i hi => by rw [(e0 i hi).1, (e0 i hi).2, oOr_ss]), obs, pMany_p (by rw [List.length_map, upF_len]; omega)]
      rfl
  | .q k n a, d + 1, ns, ρ, kvs, hw, h, hρ, hk, hn => by
    have hf := G.few
    obtain ⟨hkk, ha⟩ := hw
    have hd : dp a + 1 ≤ d + 1 := h
    have hn' : kvs.length + (dp a + 1) ≤ 900 := hn
    have ea : ∀ v : List Bool, v.length = g.length → m_where d g a (putS kvs n v) = some (sem g a (upR ρ n v)) := fun v hv => by
      have := putS_len (kvs := kvs) (k := n) (v := v)
      refine where_t G a d ha (by omega) (upR_len hρ hv) (fun m hm => ?_) (by omega)
      rw [lookS_put]
      unfold upR
      by_cases c : m = n
      · rw [if_pos c, if_pos c]
      · rw [if_neg c, if_neg c]
        rcases List.mem_append.mp hm with z | z
        · exact hk m z
        · exact absurd (List.mem_singleton.mp z) c
    have hlF : ∀ v : List Bool, v.length = g.length → (sem g a (upR ρ n v)).length = g.length := fun v hv => sem_len g a (upR_len hρ hv)
    have hmF : ∀ u v, leB u v → leB (sem g a (upR ρ n u)) (sem g a (upR ρ n v)) := fun u v huv => sem_mono g a (upR_mono (fun m => leB.refl _) huv)
    obtain ⟨K, hK, eK⟩ := turns_rest (f := fun v => sem g a (upR ρ n v)) hmF hlF (decide (k = "most"))
    have hlen := itN_len hlF (x := List.replicate g.length (decide (k = "most"))) List.length_replicate
    have e1 : (lcO (fun _ => some true) (fun _ : Pl => pEqS k "most") g).bind pMany = some (List.replicate g.length (decide (k = "most"))) := by
      rw [lcO_map (g := fun _ : Pl => decide (k = "most")) (fun x _ => pEqS_eq _ _), obs, pMany_p (by rw [List.length_map]; omega), List.map_const']
    have key : m_closed (m_where d) g (.q k n a) kvs = some (sem g (.q k n a) ρ) := by
      unfold m_closed mo_closed
      show (((lcO (fun _ => some true) (fun _ : Pl => pEqS k "most") g).bind pMany).bind fun marks => (whileO (fun s1 : List Bool × Bool => some s1.2) _ 1000000 (marks, true)).bind (seqO fun s1 => some (Out.rt s1.1))).bind outR = _
      rw [e1, obs]
      obtain ⟨k', k1, k2, k3⟩ := loop_t (R := List Bool) (F := fun v => sem g a (upR ρ n v)) (x0 := List.replicate g.length (decide (k = "most"))) (f := fun s1 : List Bool × Bool => (((some kvs).bind pId).bind fun inner => (((some s1.1).bind fun a' => ((some (Wish.q k n a)).bind pW1S).bind fun k' => pPutS inner k' a').bind fun inner => (((bind2 (some g) (bind2 ((some (Wish.q k n a)).bind pW2W) (bind2 (some inner) (some ()) pCons) pCons) pCons).bind fun x => m_where d x.1 x.2.1 x.2.2.1).bind fun found => ((bind2 (some found) (some s1.1) pNeG).bind fun more => ((some found).bind fun marks => (some (Out.nx (marks, more))))))))) eK (fun i => by
        have e2 : pPutS kvs n (itN (fun v => sem g a (upR ρ n v)) i (List.replicate g.length (decide (k = "most")))) = some (putS kvs n (itN (fun v => sem g a (upR ρ n v)) i (List.replicate g.length (decide (k = "most"))))) := by unfold pPutS; rw [if_pos (by omega)]
        simp only [obs, pId_eq, pW1S, pW2W, e2, bind2_ss, pCons_eq, ea _ (hlen i), pNeG_eq]
        rfl) K 0 1000000 (by omega) (by omega)
      have k3' := k3
      rw [show itN (fun v => sem g a (upR ρ n v)) 0 (List.replicate g.length (decide (k = "most"))) = List.replicate g.length (decide (k = "most")) from rfl] at k3'
      rw [k3', obs, seqO_nx]
      show some (itN (fun v => sem g a (upR ρ n v)) k' _) = some (itN (fun v => sem g a (upR ρ n v)) (g.length + 1) _)
      have := itN_rest k2 (g.length + 1 - k')
      rw [show k' + (g.length + 1 - k') = g.length + 1 by omega] at this
      rw [this]
    show (mo_where (m_where d) g (.q k n a) kvs).bind outR = _
    rcases hkk with rfl | rfl
    · show (((m_closed (m_where d) g (.q "least" n a) kvs).bind fun a => some (Out.rt a)).bind (seqO noE)).bind outR = _
      rw [outR_b]; exact key
    · show (((m_closed (m_where d) g (.q "most" n a) kvs).bind fun a => some (Out.rt a)).bind (seqO noE)).bind outR = _
      rw [outR_b]; exact key
/- the law's lists of places -/
structure RepL (g : List Pl) (v : List Bool) (ps : List Int) : Prop where
  few : ps.length ≤ g.length
  mem : ∀ i : Int, 0 ≤ i → i < g.length → (i ∈ ps ↔ v.getD i.toNat false = true)
theorem getD_gp {f : Pl → Bool} {i : Int} (h0 : 0 ≤ i) (h1 : i < g.length) : (g.map f).getD i.toNat false = f (gp g i) := by
  rw [getD_map, gp, List.getElem?_eq_getElem (by omega)]; rfl
theorem getD_up {f : Int → Bool} {n : Nat} {i : Int} (h0 : 0 ≤ i) (h1 : i < n) : ((upF 0 n).map f).getD i.toNat false = f i := by
  rw [getD_map]
  have : (upF 0 n)[i.toNat]? = some i := by
    unfold upF
    rw [List.getElem?_map, List.getElem?_range (by omega)]
    show some ((0 : Int) + (i.toNat : Nat)) = some i
    congr 1; omega
  rw [this]
theorem filter_rep {n : Nat} {t : Int → Option Bool} {p : Int → Bool} (hn : n ≤ 1000) (h : ∀ i : Int, 0 ≤ i → i < n → t i = some (p i)) : ((pLen g).bind fun m => pRng ((n : Int) + (m - m))).bind (fun xs => (lcO t (fun i => some i) xs).bind pMany) = some ((upF 0 n).filter p) := by
  rw [pLen_eq, obs, show (n : Int) + ((g.length : Int) - g.length) = n by omega, pRng_p (by omega) (by omega), obs, Int.toNat_natCast]
  rw [lcO_filter (p := p) (g := fun i : Int => i) (fun i hi => by have := mem_upF.mp hi; exact h i (by omega) (by omega)) (fun i _ _ => rfl), obs, List.map_id']
  have := List.length_filter_le p (upF 0 n)
  rw [upF_len] at this
  exact pMany_p (by omega)
theorem filter_t {t : Int → Option Bool} {p : Int → Bool} (G : WOk g) (h : ∀ i : Int, 0 ≤ i → i < g.length → t i = some (p i)) : ((pLen g).bind pRng).bind (fun xs => (lcO t (fun i => some i) xs).bind pMany) = some ((upF 0 g.length).filter p) := by
  have hf := G.few
  rw [pLen_eq, obs, pRng_p (by omega) (by omega), obs, Int.toNat_natCast]
  rw [lcO_filter (p := p) (g := fun i : Int => i) (fun i hi => by have := mem_upF.mp hi; exact h i (by omega) (by omega)) (fun i _ _ => rfl), obs, List.map_id']
  have := List.length_filter_le p (upF 0 g.length)
  rw [upF_len] at this
  exact pMany_p (by omega)
theorem RepL.of_filter {p : Int → Bool} {v : List Bool} (h : ∀ i : Int, 0 ≤ i → i < g.length → p i = v.getD i.toNat false) : RepL g v ((upF 0 g.length).filter p) where
  few := by have := List.length_filter_le p (upF 0 g.length); rw [upF_len] at this; exact this
  mem := fun i h0 h1 => by
    rw [List.mem_filter, mem_upF, h i h0 h1]
    constructor
    · exact fun z => z.2
    · exact fun z => ⟨by omega, z⟩
end
end Cw
/- PK01: law k01 in plain Lean. -/
namespace Cw
open PySem PySem.Spec L2
open PyProof.Rows hiding St
abbrev Row := Int × Int × List Int
theorem srtS_nd : ∀ {xs : List Int}, (srtS xs).length = xs.length → xs.Nodup
  | [], _ => List.nodup_nil
  | x :: r, h => by
    rw [List.length_cons] at h
    have a : x ∉ r := fun z => by
      have := nodup_sub (ys := r) (srtS_nodup (x :: r)) fun y hy => by
        rcases List.mem_cons.mp (srtS_mem.mp hy) with e | e
        · rw [e]; exact z
        · exact e
      omega
    have b := nodup_sub (ys := x :: srtS r) (srtS_nodup (x :: r)) fun y hy => by
      rcases List.mem_cons.mp (srtS_mem.mp hy) with e | e
      · rw [e]; exact List.mem_cons_self
      · exact List.mem_cons_of_mem _ (srtS_mem.mpr e)
    rw [List.length_cons] at b
    have := srtS_len r
    exact List.nodup_cons.mpr ⟨a, srtS_nd (by omega)⟩
theorem srtS_ln {xs : List Int} : (srtS xs).length = xs.length ↔ xs.Nodup := by
  refine ⟨srtS_nd, fun h => ?_⟩
  have := nodup_sub h fun x hx => srtS_mem.mpr hx
  have := srtS_len xs
  omega
/- what is the matter with a list of ways -/
def badK (n : Int) (ws : List Int) : Option Int :=
  if ws = [] then some 1 else if ws.all (fun w => decide (0 ≤ w) && decide (w < n)) = true then (if ws.Nodup then none else some 3) else some 2
theorem badK_none {n : Int} {ws : List Int} : badK n ws = none ↔ ws ≠ [] ∧ (∀ w ∈ ws, 0 ≤ w ∧ w < n) ∧ ws.Nodup := by
  unfold badK
  by_cases a : ws = []
  · simp [a]
  · rw [if_neg a]
    by_cases c : ws.all (fun w => decide (0 ≤ w) && decide (w < n)) = true
    · rw [if_pos c]
      have c' : ∀ w ∈ ws, 0 ≤ w ∧ w < n := fun w hw => by simpa using List.all_eq_true.mp c w hw
      by_cases d : ws.Nodup
      · rw [if_pos d]; exact ⟨fun _ => ⟨a, c', d⟩, fun _ => rfl⟩
      · rw [if_neg d]; exact ⟨fun z => (nomatch z), fun z => absurd z.2.2 d⟩
    · rw [if_neg c]
      refine ⟨fun z => (nomatch z), fun z => absurd (List.all_eq_true.mpr fun w hw => ?_) c⟩
      have := z.2.1 w hw
      simp [this]
def nameOf (k : Int) : Str := if k = 0 then "TooMany" else if k = 1 then "Stuck" else if k = 2 then "NoPlace" else "Twice"
theorem checked_eq {row : Row} {n : Int} (h : row.2.2.length ≤ 1000) : m_checked row n = some (match badK n row.2.2 with | none => .ok () | some k => .ex (nameOf k)) := by
  unfold m_checked mo_checked
  simp only [obs, pLen_eq, bind2_ss, pEq_eq, pLe_eq, pLt_eq, oAnd_ss, oNot_s, seqO_rt, pSet_p h]
  by_cases a : row.2.2 = []
  · have : badK n row.2.2 = some 1 := by unfold badK; rw [if_pos a]
    rw [this, if_pos (by simp [a])]
    rfl
  · rw [if_neg (by simpa using a)]
    rw [forO_all (p := fun w => decide (0 ≤ w) && decide (w < n)) (r := Ret.ex "NoPlace") (by intro w _; cases (decide (0 ≤ w) && decide (w < n)) <;> rfl)]
    by_cases c : row.2.2.all (fun w => decide (0 ≤ w) && decide (w < n)) = true
    · rw [if_pos c]
      simp only [obs, seqO_nx, pLenSet, bind2_ss, pNe_eq]
      by_cases d : row.2.2.Nodup
      · have e1 : badK n row.2.2 = none := by unfold badK; rw [if_neg a, if_pos c, if_pos d]
        have e2 := srtS_ln.mpr d
        rw [e1, if_neg (by simp [e2])]
        rfl
      · have e1 : badK n row.2.2 = some 3 := by unfold badK; rw [if_neg a, if_pos c, if_neg d]
        have e2 : (srtS row.2.2).length ≠ row.2.2.length := fun z => d (srtS_ln.mp z)
        rw [e1, if_pos (by simp; omega)]
        rfl
    · have e1 : badK n row.2.2 = some 2 := by unfold badK; rw [if_neg a, if_neg c]
      rw [e1, if_neg c]
      rfl
theorem forO_fst {α R : Type} {f : Unit → α → Option (Out Unit R)} {c : α → Option R} : ∀ {xs : List α}, (∀ x ∈ xs, f () x = some (match c x with | none => .nx () | some r => .rt r)) → forO f xs () = some (match xs.findSome? c with | none => .nx () | some r => .rt r)
  | [], _ => rfl
  | x :: xs, h => by
    show (f () x).bind (seqO (forO f xs)) = _
    rw [h x List.mem_cons_self, obs, List.findSome?_cons]
    cases e : c x with
    | none => rw [seqO_nx, forO_fst fun y hy => h y (List.mem_cons_of_mem _ hy)]
    | some r => rfl
/- the first bad row -/
def fstBad (rows : List Row) : Option Int := rows.findSome? fun r => badK rows.length r.2.2
theorem findSome_map {α β γ : Type} {c : α → Option β} {h : β → γ} : ∀ {xs : List α}, xs.findSome? (fun x => (c x).map h) = (xs.findSome? c).map h
  | [] => rfl
  | x :: xs => by
    rw [List.findSome?_cons, List.findSome?_cons]
    cases c x with
    | none => exact findSome_map
    | some r => rfl
def okRow (r : Row) : Pl := (r.1, r.2.1, srt r.2.2)
theorem made_eq {rows : List Row} (hl : rows.length ≤ 100000) (h : ∀ r ∈ rows, r.2.2.length < 64) : m_made rows = some (if 1 ≤ rows.length ∧ rows.length ≤ 24 then (match fstBad rows with | none => .ok (rows.map okRow) | some k => .ex (nameOf k)) else .ex "TooMany") := by
  unfold m_made mo_made
  simp only [obs, pLen_eq, bind2_ss, pLe_eq, oAnd_ss, oNot_s, seqO_rt, pCons_eq, okO]
  by_cases c : 1 ≤ rows.length ∧ rows.length ≤ 24
  · rw [if_pos c, if_neg (by simp; omega)]
    rw [forO_fst (c := fun r : Row => (badK rows.length r.2.2).map fun k => (Ret.ex (nameOf k) : Ret (List Pl))) (by
      intro r hr
      rw [checked_eq (by have := h r hr; omega), obs]
      cases badK rows.length r.2.2 <;> rfl)]
    rw [findSome_map]
    unfold fstBad
    cases rows.findSome? fun r => badK rows.length r.2.2 with
    | some k => rfl
    | none =>
      simp only [obs, Option.map_none, seqO_nx]
      rw [lcO_map (g := okRow) (by intro r hr; rw [pSrt_p (h r hr)]; rfl)]
      simp only [obs, pMany_p (xs := rows.map okRow) (by rw [List.length_map]; omega), pId_eq]
      rfl
  · rw [if_neg c, if_pos (by simp; omega)]
    rfl
def marksOf1 (nm : Str) : List Bool := [exSub nm "TooMany", exSub nm "Stuck", exSub nm "NoPlace", exSub nm "Twice", exSub nm "Lost", exSub nm "Loose", exSub nm "NoNote", exSub nm "ValueError"]
theorem refused1_eq {m : List Bool} {k : Int} (hm : m = ((upF 0 7).map fun i => decide (i = k)) ++ [true]) : m_law_refused m k = some true := by
  unfold m_law_refused mo_law_refused
  simp only [obs, pRng_p (n := 7) (by decide) (by decide), show ((7 : Int)).toNat = 7 from rfl, bind2_ss, pFew_p (xs := [true]) (by simp)]
  rw [lcO_map (g := fun i => decide (i = k)) (by intro x _; simp only [pEq_eq])]
  simp only [obs, pMany_p (xs := (upF 0 7).map fun i => decide (i = k)) (by rw [List.length_map, upF_len]; omega), bind2_ss]
  rw [pCat_p (by rw [List.length_map, upF_len]; simp)]
  simp only [bind2_ss, pEqG_eq, obs, outR_rt, hm, decide_true]
theorem erase_perm : ∀ {xs : List Int} {k : Nat} (h : k < xs.length), (xs[k] :: xs.eraseIdx k).Perm xs
  | x :: r, 0, _ => .refl _
  | x :: r, k + 1, h => (List.Perm.swap _ _ _).trans ((erase_perm (xs := r) (k := k) (by simpa using h)).cons x)
theorem pPow_10_9 : pPow 10 9 = some 1000000000 := by
  unfold pPow
  rw [if_pos (by decide)]
  exact congrArg some (by decide)
theorem cutG_len {α : Type} (xs : List α) (l u : Option Int) : (cutG xs l u).length ≤ xs.length := by
  unfold cutG
  rw [List.length_take, List.length_drop]; omega
/- rows that tell a game, or are bad -/
structure RowOk (n : Int) (p : Pl) (r : Row) : Prop where
  hand : r.1 = p.1
  num : r.2.1 = p.2.1
  few : r.2.2.length < 20
  same : badK n r.2.2 = none → r.2.2.Perm p.2.2
structure RowsOk (n : Int) (g : List Pl) (rows : List Row) : Prop where
  len : rows.length = g.length
  all : ∀ (j : Nat) (p : Pl) (r : Row), g[j]? = some p → rows[j]? = some r → RowOk n p r
theorem RowsOk.set {n : Int} {g : List Pl} {rows : List Row} (R : RowsOk n g rows) {k : Nat} {v : Row} (h : ∀ p, g[k]? = some p → RowOk n p v) : RowsOk n g (rows.set k v) where
  len := by rw [List.length_set]; exact R.len
  all := fun j p r h1 h2 => by
    by_cases q : k = j
    · subst q
      have hk : k < rows.length := by have := (List.getElem?_eq_some_iff.mp h2).1; rwa [List.length_set] at this
      rw [List.getElem?_set_self hk] at h2
      cases h2
      exact h p h1
    · rw [List.getElem?_set_ne q] at h2
      exact R.all j p r h1 h2
theorem RowsOk.game {n : Nat} {lo sp : Int} {g : List Pl} {rows : List Row} (G : GmOk n lo sp g) (R : RowsOk n g rows) (h : fstBad rows = none) : rows.map okRow = g := by
  apply List.ext_getElem?
  intro j
  rw [List.getElem?_map]
  by_cases hj : j < g.length
  · have hj' : j < rows.length := by rw [R.len]; exact hj
    rw [List.getElem?_eq_getElem hj, List.getElem?_eq_getElem hj']
    have O := R.all j _ _ (List.getElem?_eq_getElem hj) (List.getElem?_eq_getElem hj')
    have b := List.findSome?_eq_none_iff.mp h rows[j] (List.getElem_mem hj')
    rw [R.len, G.len] at b
    have p := O.same b
    have P := G.all _ (List.getElem_mem hj)
    have e : srt rows[j].2.2 = g[j].2.2 := sorted_unique ((srt_perm _).trans p) (srt_sorted _) (P.inc.imp fun h => Int.le_of_lt h)
    show some (okRow rows[j]) = some g[j]
    unfold okRow
    rw [e, O.hand, O.num]
  · have hl := R.len
    rw [List.getElem?_eq_none (l := g) (by omega), List.getElem?_eq_none (l := rows) (by omega)]
    rfl
theorem ex_then1 {S S' R T : Type} {m : Option (Out S R)} {k : S → Option (Out S' R)} {c : Out S' R → Option T} {P : T → Prop} (I : S → Prop) (h : ∃ s, m = some (.nx s) ∧ I s) (hn : ∀ s, I s → ∃ r, (k s).bind c = some r ∧ P r) : ∃ r, (m.bind (seqO k)).bind c = some r ∧ P r := by
  obtain ⟨s, e, hs⟩ := h
  rw [e]
  exact hn s hs
theorem pE1_ne {α : Type} {xs : List α} (h : xs ≠ []) : pE1 xs = some xs := by
  cases xs with
  | nil => exact absurd rfl h
  | cons x r => rfl
theorem setI_any {α : Type} {xs : List α} {i : Int} {v : α} (h0 : 0 ≤ i) (h1 : i < xs.length) : setI xs i v = some (xs.set i.toNat v) := by
  unfold setI ixN
  rw [if_pos h0, if_pos h1]; rfl
end Cw
/- PLay: the signs of a wish, laid one behind the other, by the program's def and the law's; their crowns. -/
namespace Cw
open PySem PySem.Spec L2
open PyProof.Rows hiding St
/- the number of a name -/
def upN (ρ : Str → Int) (n : Str) (v : Int) : Str → Int := fun m => if m = n then v else ρ m
def lays : Wish → (Str → Int) → Int → List (Wish × List Int)
  | .i k c, _, at_v => [(.i k c, [at_v])]
  | .s k n, ρ, _ => [(.s k n, [ρ n])]
  | .u k a, ρ, at_v => (.u k a, [at_v + 1]) :: lays a ρ (at_v + 1)
  | .b k a c, ρ, at_v => (.b k a c, [at_v + 1, at_v + 1 + sz a]) :: (lays a ρ (at_v + 1) ++ lays c ρ (at_v + 1 + sz a))
  | .q k n a, ρ, at_v => (.q k n a, [at_v + 1]) :: lays a (upN ρ n at_v) (at_v + 1)
theorem lays_len : ∀ (w : Wish) (ρ : Str → Int) (p : Int), ((lays w ρ p).length : Int) = sz w
  | .i _ _, _, _ => rfl
  | .s _ _, _, _ => rfl
  | .u _ a, ρ, p => by
    have := lays_len a ρ (p + 1)
    show (((lays a ρ (p + 1)).length + 1 : Nat) : Int) = 1 + sz a
    omega
  | .b _ a c, ρ, p => by
    have h1 := lays_len a ρ (p + 1)
    have h2 := lays_len c ρ (p + 1 + sz a)
    show (((lays a ρ (p + 1) ++ lays c ρ (p + 1 + sz a)).length + 1 : Nat) : Int) = 1 + (sz a + sz c)
    rw [List.length_append]
    omega
  | .q _ n a, ρ, p => by
    have := lays_len a (upN ρ n p) (p + 1)
    show (((lays a (upN ρ n p) (p + 1)).length + 1 : Nat) : Int) = 1 + sz a
    omega
theorem sz_pos : ∀ w : Wish, 1 ≤ sz w
  | .i _ _ => by show (1 : Int) ≤ 1; omega
  | .s _ _ => by show (1 : Int) ≤ 1; omega
  | .u _ a => by have := sz_pos a; show (1 : Int) ≤ 1 + sz a; omega
  | .b _ a c => by have := sz_pos a; have := sz_pos c; show (1 : Int) ≤ 1 + (sz a + sz c); omega
  | .q _ _ a => by have := sz_pos a; show (1 : Int) ≤ 1 + sz a; omega
theorem setI_mid {α : Type} {xs ys : List α} {x y : α} {i : Int} (h : i = xs.length) : setI (xs ++ x :: ys) i y = some (xs ++ y :: ys) := by
  subst h
  have e : setI (xs ++ x :: ys) (xs.length : Int) y = some ((xs ++ x :: ys).set xs.length y) := by
    unfold setI ixN
    rw [if_pos (by omega), if_pos (by rw [List.length_append, List.length_cons]; omega), Int.toNat_natCast]; rfl
  rw [e]
  congr 1
  rw [List.set_append_right _ _ (Nat.le_refl _), Nat.sub_self]; rfl
theorem outMR_rt {R T : Type} (r : R × T) : outMR (.rt r) = some r := eqOf rfl
theorem lcS_1 {α β T : Type} {f : α → T → Option (β × T)} {a : α} {t t1 : T} {x : β} (h : f a t = some (x, t1)) : lcS f [a] t = some ([x], t1) := by
  show (f a t).bind _ = _
  rw [h]; rfl
theorem lcS_2 {α β T : Type} {f : α → T → Option (β × T)} {a c : α} {t t1 t2 : T} {x y : β} (h : f a t = some (x, t1)) (h2 : f c t1 = some (y, t2)) : lcS f [a, c] t = some ([x, y], t2) := by
  show (f a t).bind _ = _
  rw [h, obs, lcS_1 h2]; rfl
theorem len_app1 {α : Type} {xs : List α} {x : α} : ((xs ++ [x]).length : Int) = xs.length + 1 := by rw [List.length_append]; rfl
theorem lay_t : ∀ (d : Nat) {w : Wish} {ns : List Str} {ρ : Str → Int} {kvs : List (Str × Int)} {found : List (Wish × List Int)}, Wf ns w → dp w ≤ d → (∀ m ∈ ns, lookS kvs m = some (ρ m)) → kvs.length + dp w ≤ 900 → found.length + sz w ≤ 900 →
    m_lay d w kvs found = some ((found.length : Int), found ++ lays w ρ found.length)
  | 0, w, _, _, _, _, _, h, _, _, _ => by have := dp_pos w; omega
  | d + 1, w, ns, ρ, kvs, found, hw, h, hk, hn, hf => by
    have ih := fun (w : Wish) (ns : List Str) (ρ : Str → Int) (kvs : List (Str × Int)) (found : List (Wish × List Int)) => lay_t d (w := w) (ns := ns) (ρ := ρ) (kvs := kvs) (found := found)
    have hp := parts_t hw
    have hs := sz_pos w
    show (mo_lay (m_lay d) w kvs found).bind outMR = _
    unfold mo_lay
    simp only [obs, bind2_ss, pLen_eq, pFew_p (xs := [(found.length : Int)]) (by simp), pApp_p (xs := found) (a := (w, [(found.length : Int)])) (by omega), pEqS_eq, pFew_p (xs := ([("least" : Str), "most"])) (by simp), pCons_eq, hp, pGt_eq, qbo]
    have fin : ∀ (s5 : List (Str × Int)) (s3 s4 : List (Wish × List Int)) (nums : List Int) (x : List Int) (tl : List (Wish × List Int)), lcS (fun part s6 => m_lay d part s5 s6) (kids w) s3 = some (nums, s4) → nums.length ≤ 2 → s4 = found ++ (w, x) :: tl →
        (((lcS (fun part s6 => m_lay d part s5 s6) (kids w) s3).bind pManyS).bind fun a => (if decide (0 < (a.fst.length : Int)) = true then (setI a.snd found.length (w, a.fst)).bind fun s4 => some (Out.nx s4) else some (Out.nx a.snd)).bind (seqO fun s9 => some (Out.rt ((found.length : Int), s9)))).bind (outMR (T := List (Wish × List Int))) = some ((found.length : Int), found ++ (w, if nums = [] then x else nums) :: tl) := by
      intro s5 s3 s4 nums x tl e hl e4
      rw [e, obs]
      show ((if nums.length ≤ 10000 then some (nums, s4) else none).bind _).bind outMR = _
      rw [if_pos (by omega), obs]
      cases nums with
      | nil => rw [if_neg (by simp), obs, seqO_nx, if_pos rfl, e4]; rfl
      | cons y r => rw [if_pos (by simp), e4, setI_mid rfl, if_neg (by simp)]; rfl
    cases w with
    | i k c =>
      have e1 : decide ((Wish.i k c).kind = ("name" : Str)) = false := by rcases hw with rfl | rfl <;> rfl
      have e2 : pInS (Wish.i k c).kind ([("least" : Str), "most"]) = some false := by rcases hw with rfl | rfl <;> rfl
      rw [e1, e2]
      exact fin kvs _ _ [] [(found.length : Int)] [] rfl (by simp) rfl
    | s k n =>
      obtain ⟨rfl, hm⟩ := hw
      have e2 : pInS (Wish.s "name" n).kind ([("least" : Str), "most"]) = some false := rfl
      have e1 : decide ((Wish.s "name" n).kind = ("name" : Str)) = true := decide_eq_true rfl
      rw [e1, e2, if_pos rfl, show pW1S (Wish.s "name" n) = some n from rfl, bind2_ss, hk n hm, bind2_ss, obs, pFew_p (by simp), bind2_ss, obs, setI_mid rfl, obs, obs, seqO_nx, obs, if_neg Bool.false_ne_true, obs, seqO_nx]
      exact fin kvs _ _ [] [ρ n] [] rfl (by simp) rfl
    | u k a =>
      obtain ⟨hkk, ha⟩ := hw
      have hd : dp a + 1 ≤ d + 1 := h
      have hn' : kvs.length + (dp a + 1) ≤ 900 := hn
      have hf' : (found.length : Int) + (1 + sz a) ≤ 900 := hf
      have e1 : decide ((Wish.u k a).kind = ("name" : Str)) = false := by rcases hkk with rfl | rfl <;> rfl
      have e2 : pInS (Wish.u k a).kind ([("least" : Str), "most"]) = some false := by rcases hkk with rfl | rfl <;> rfl
      have e3 := ih a ns ρ kvs (found ++ [(Wish.u k a, [(found.length : Int)])]) ha (by omega) hk (by omega) (by rw [List.length_append]; simp; omega)
      rw [len_app1, List.append_assoc] at e3
      rw [e1, e2]
      exact fin kvs _ _ [(found.length : Int) + 1] _ _ (lcS_1 e3) (by simp) rfl
    | b k a c =>
      obtain ⟨hkk, ha, hc⟩ := hw
      have hd : max (dp a) (dp c) + 1 ≤ d + 1 := h
      have hn' : kvs.length + (max (dp a) (dp c) + 1) ≤ 900 := hn
      have hf' : (found.length : Int) + (1 + (sz a + sz c)) ≤ 900 := hf
      have sa := sz_pos a
      have sc := sz_pos c
      have e1 : decide ((Wish.b k a c).kind = ("name" : Str)) = false := by rcases hkk with rfl | rfl <;> rfl
      have e2 : pInS (Wish.b k a c).kind ([("least" : Str), "most"]) = some false := by rcases hkk with rfl | rfl <;> rfl
      have e3 := ih a ns ρ kvs (found ++ [(Wish.b k a c, [(found.length : Int)])]) ha (by omega) hk (by omega) (by rw [List.length_append]; simp; omega)
      have la := lays_len a ρ ((found.length : Int) + 1)
      rw [len_app1, List.append_assoc] at e3
      have e4 := ih c ns ρ kvs (found ++ ([(Wish.b k a c, [(found.length : Int)])] ++ lays a ρ ((found.length : Int) + 1))) hc (by omega) hk (by omega) (by rw [List.length_append, List.length_append, List.length_singleton]; omega)
      have el : ((found ++ ([(Wish.b k a c, [(found.length : Int)])] ++ lays a ρ ((found.length : Int) + 1))).length : Int) = found.length + 1 + sz a := by rw [List.length_append, List.length_append, List.length_singleton]; omega
      rw [el, List.append_assoc, List.append_assoc] at e4
      rw [e1, e2]
      exact fin kvs _ _ [(found.length : Int) + 1, (found.length : Int) + 1 + sz a] _ _ (lcS_2 e3 e4) (by simp) rfl
    | q k n a =>
      obtain ⟨hkk, ha⟩ := hw
      have hd : dp a + 1 ≤ d + 1 := h
      have hn' : kvs.length + (dp a + 1) ≤ 900 := hn
      have hf' : (found.length : Int) + (1 + sz a) ≤ 900 := hf
      have e1 : decide ((Wish.q k n a).kind = ("name" : Str)) = false := by rcases hkk with rfl | rfl <;> rfl
      have e2 : pInS (Wish.q k n a).kind ([("least" : Str), "most"]) = some true := by rcases hkk with rfl | rfl <;> rfl
      have e5 : pPutS kvs n (found.length : Int) = some (putS kvs n found.length) := by unfold pPutS; rw [if_pos (by omega)]
      have := putS_len (kvs := kvs) (k := n) (v := (found.length : Int))
      have e3 := ih a (ns ++ [n]) (upN ρ n found.length) (putS kvs n found.length) (found ++ [(Wish.q k n a, [(found.length : Int)])]) ha (by omega) (fun m hm => by
        rw [lookS_put]
        unfold upN
        by_cases c : m = n
        · rw [if_pos c, if_pos c]
        · rw [if_neg c, if_neg c]
          rcases List.mem_append.mp hm with z | z
          · exact hk m z
          · exact absurd (List.mem_singleton.mp z) c) (by omega) (by rw [List.length_append]; simp; omega)
      rw [len_app1, List.append_assoc] at e3
      rw [e1, e2, if_neg Bool.false_ne_true, obs, seqO_nx, obs, if_pos rfl, pId_eq, obs, show pW1S (Wish.q k n a) = some n from rfl, obs, e5, obs, obs, seqO_nx]
      exact fin (putS kvs n found.length) _ _ [(found.length : Int) + 1] _ _ (lcS_1 e3) (by simp) rfl
end Cw
/- PLay2: the law's way to lay the signs; the crowns of the signs. -/
namespace Cw
open PySem PySem.Spec L2
open PyProof.Rows hiding St
def RepN (ns : List Str) (names : List (Str × Int)) (ρ : Str → Int) : Prop := ∀ m ∈ ns, ∃ xs, (names.filter fun p => decide (p.1 = m)).map (·.2) = xs ++ [ρ m]
theorem pSetW_mid {xs ys : List (Wish × List Int)} {w : Wish} {x y : List Int} {i : Int} (h : i = xs.length) : pSetW (xs ++ (w, x) :: ys) i y = some (xs ++ (w, y) :: ys) := by
  subst h
  unfold pSetW ixN
  rw [if_pos (by omega), if_pos (by rw [List.length_append, List.length_cons]; omega), Int.toNat_natCast, obs, List.getElem?_append_right (Nat.le_refl _), Nat.sub_self]
  show some ((xs ++ (w, x) :: ys).set xs.length (w, y)) = _
  congr 1
  rw [List.set_append_right _ _ (Nat.le_refl _), Nat.sub_self]; rfl
theorem pAppW_mid {xs ys : List (Wish × List Int)} {w : Wish} {x : List Int} {a i : Int} (h : i = xs.length) (hx : x.length ≤ 2) : pAppW (xs ++ (w, x) :: ys) i a = some (xs ++ (w, x ++ [a]) :: ys) := by
  subst h
  unfold pAppW ixN
  rw [if_pos (by omega), if_pos (by rw [List.length_append, List.length_cons]; omega), Int.toNat_natCast, obs, List.getElem?_append_right (Nat.le_refl _), Nat.sub_self]
  show (if x.length < 1000000 then some ((xs ++ (w, x) :: ys).set xs.length (w, x ++ [a])) else none) = _
  rw [if_pos (by omega)]
  congr 1
  rw [List.set_append_right _ _ (Nat.le_refl _), Nat.sub_self]; rfl
theorem atI_mid {α : Type} {xs ys : List α} {x : α} {i : Int} (h : i = xs.length) : atI (xs ++ x :: ys) i = some x := by
  subst h
  exact atI_nat (by rw [List.getElem?_append_right (Nat.le_refl _), Nat.sub_self]; rfl)
theorem forO_1 {α S R : Type} {f : S → α → Option (Out S R)} {a : α} {s t : S} (h : f s a = some (.nx t)) : forO f [a] s = some (.nx t) := by
  show (f s a).bind _ = _
  rw [h]; rfl
theorem forO_2 {α S R : Type} {f : S → α → Option (Out S R)} {a c : α} {s t u : S} (h : f s a = some (.nx t)) (h2 : f t c = some (.nx u)) : forO f [a, c] s = some (.nx u) := by
  show (f s a).bind _ = _
  rw [h]
  exact forO_1 h2
theorem outMN_nx {T : Type} (t : T) : outMN (.nx t) = some ((), t) := eqOf rfl
theorem law_lay_t : ∀ (d : Nat) {w : Wish} {ns : List Str} {ρ : Str → Int} {names : List (Str × Int)} {found : List (Wish × List Int)}, Wf ns w → dp w ≤ d → RepN ns names ρ → names.length + dp w ≤ 900 → found.length + sz w ≤ 900 →
    m_law_lay d w names found = some ((), found ++ lays w ρ found.length)
  | 0, w, _, _, _, _, _, h, _, _, _ => by have := dp_pos w; omega
  | d + 1, w, ns, ρ, names, found, hw, h, hk, hn, hf => by
    have ih := fun (w : Wish) (ns : List Str) (ρ : Str → Int) (names : List (Str × Int)) (found : List (Wish × List Int)) => law_lay_t d (w := w) (ns := ns) (ρ := ρ) (names := names) (found := found)
    have hp := law_parts_t hw
    have hs := sz_pos w
    show (mo_law_lay (m_law_lay d) w names found).bind outMN = _
    unfold mo_law_lay
    simp only [obs, bind2_ss, pLen_eq, pFew_p (xs := [(found.length : Int)]) (by simp), pFew_p (xs := ([] : List Int)) (by simp), pApp_p (xs := found) (a := (w, [(found.length : Int)])) (by omega), pEqS_eq, pFew_p (xs := ([("least" : Str), "most"])) (by simp), pCons_eq, hp, pEqG_eq, qbo]
    have step : ∀ (s5 : List (Str × Int)) (x : List Int) (tl : List (Wish × List Int)) (part : Wish) (S : List (Wish × List Int)), x.length ≤ 1 → m_law_lay d part s5 (found ++ (w, (if x = [(found.length : Int)] then [] else x) ++ [(found.length : Int) + 1 + tl.length]) :: tl) = some ((), S) →
        ((bind2 ((atI (found ++ (w, x) :: tl) (found.length : Int)).bind fun x => some x.snd) (some [(found.length : Int)]) pEqG).bind fun t => (if t = true then (pSetW (found ++ (w, x) :: tl) (found.length : Int) []).bind fun s4 => some (Out.nx s4) else some (Out.nx (found ++ (w, x) :: tl))).bind
          (seqO fun s8 => (pAppW s8 (found.length : Int) (s8.length : Int)).bind fun s10 => (m_law_lay d part s5 s10).bind fun a => some (Out.nx (R := Unit × List (Wish × List Int)) a.snd))) = some (.nx S) := by
      intro s5 x tl part S hx e
      have el : ∀ y : List Int, ((found ++ (w, y) :: tl).length : Int) = (found.length : Int) + 1 + tl.length := fun y => by rw [List.length_append, List.length_cons]; omega
      rw [atI_mid rfl, obs, bind2_ss, pEqG_eq, obs]
      by_cases c : x = [(found.length : Int)]
      · rw [if_pos (by simpa using c), pSetW_mid rfl, obs, obs, seqO_nx, el, pAppW_mid rfl (by simp), obs]
        rw [if_pos c] at e
        rw [e, obs]
      · rw [if_neg (by simpa using c), obs, seqO_nx, el, pAppW_mid rfl (by omega), obs]
        rw [if_neg c] at e
        rw [e, obs]
    cases w with
    | i k c =>
      have e1 : decide ((Wish.i k c).kind = ("name" : Str)) = false := by rcases hw with rfl | rfl <;> rfl
      have e2 : pInS (Wish.i k c).kind ([("least" : Str), "most"]) = some false := by rcases hw with rfl | rfl <;> rfl
      rw [e1, e2]
      rfl
    | s k n =>
      obtain ⟨rfl, hm⟩ := hw
      have e2 : pInS (Wish.s "name" n).kind ([("least" : Str), "most"]) = some false := rfl
      have e1 : decide ((Wish.s "name" n).kind = ("name" : Str)) = true := decide_eq_true rfl
      obtain ⟨xs, ex⟩ := hk n hm
      have e3 : (lcO (fun pair : Str × Int => bind2 (some pair.1) (pW1S (Wish.s "name" n)) pEqS) (fun pair => some pair.2) names).bind pMany = some (xs ++ [ρ n]) := by
        rw [lcO_filter (p := fun p : Str × Int => decide (p.1 = n)) (g := fun p : Str × Int => p.2) (fun x _ => by show bind2 (some x.1) (some n) pEqS = _; rw [bind2_ss, pEqS_eq]) (fun _ _ _ => rfl), obs]
        show pMany ((names.filter fun p => decide (p.1 = n)).map (·.2)) = _
        have := List.length_filter_le (fun p : Str × Int => decide (p.1 = n)) names
        rw [pMany_p (by rw [List.length_map]; omega), ex]
      rw [e1, e2, if_pos rfl, e3, pNeg_eq, bind2_ss, atI_last, bind2_ss, obs, pFew_p (by simp), obs, pSetW_mid rfl, obs, obs, seqO_nx, obs, if_neg Bool.false_ne_true, obs, seqO_nx]
      rfl
    | u k a =>
      obtain ⟨hkk, ha⟩ := hw
      have hd : dp a + 1 ≤ d + 1 := h
      have hn' : names.length + (dp a + 1) ≤ 900 := hn
      have hf' : (found.length : Int) + (1 + sz a) ≤ 900 := hf
      have e1 : decide ((Wish.u k a).kind = ("name" : Str)) = false := by rcases hkk with rfl | rfl <;> rfl
      have e2 : pInS (Wish.u k a).kind ([("least" : Str), "most"]) = some false := by rcases hkk with rfl | rfl <;> rfl
      have e3 := ih a ns ρ names (found ++ [(Wish.u k a, [(found.length : Int) + 1])]) ha (by omega) hk (by omega) (by rw [List.length_append]; simp; omega)
      rw [len_app1, List.append_assoc] at e3
      have e4 := step names [(found.length : Int)] [] a _ (by simp) (by rw [if_pos rfl, List.nil_append, List.length_nil, show ((0 : Nat) : Int) = 0 from rfl, Int.add_zero]; exact e3)
      rw [e1, e2, if_neg Bool.false_ne_true, obs, seqO_nx, obs, if_neg Bool.false_ne_true, obs, seqO_nx]
      rw [show kids (Wish.u k a) = [a] from rfl, forO_1 (t := found ++ ([(Wish.u k a, [(found.length : Int) + 1])] ++ lays a ρ ((found.length : Int) + 1)))]
      · rfl
      · exact e4
    | b k a c =>
      obtain ⟨hkk, ha, hc⟩ := hw
      have hd : max (dp a) (dp c) + 1 ≤ d + 1 := h
      have hn' : names.length + (max (dp a) (dp c) + 1) ≤ 900 := hn
      have hf' : (found.length : Int) + (1 + (sz a + sz c)) ≤ 900 := hf
      have sa := sz_pos a
      have sc := sz_pos c
      have e1 : decide ((Wish.b k a c).kind = ("name" : Str)) = false := by rcases hkk with rfl | rfl <;> rfl
      have e2 : pInS (Wish.b k a c).kind ([("least" : Str), "most"]) = some false := by rcases hkk with rfl | rfl <;> rfl
      have e3 := ih a ns ρ names (found ++ [(Wish.b k a c, [(found.length : Int) + 1])]) ha (by omega) hk (by omega) (by rw [List.length_append]; simp; omega)
      have la := lays_len a ρ ((found.length : Int) + 1)
      rw [len_app1, List.append_assoc] at e3
      have e4 := step names [(found.length : Int)] [] a _ (by simp) (by rw [if_pos rfl, List.nil_append, List.length_nil, show ((0 : Nat) : Int) = 0 from rfl, Int.add_zero]; exact e3)
      have e5 := ih c ns ρ names (found ++ ([(Wish.b k a c, [(found.length : Int) + 1, (found.length : Int) + 1 + sz a])] ++ lays a ρ ((found.length : Int) + 1))) hc (by omega) hk (by omega) (by rw [List.length_append, List.length_append, List.length_singleton]; omega)
      have el : ((found ++ ([(Wish.b k a c, [(found.length : Int) + 1, (found.length : Int) + 1 + sz a])] ++ lays a ρ ((found.length : Int) + 1))).length : Int) = found.length + 1 + sz a := by rw [List.length_append, List.length_append, List.length_singleton]; omega
      rw [el, List.append_assoc, List.append_assoc] at e5
      have e6 := step names [(found.length : Int) + 1] (lays a ρ ((found.length : Int) + 1)) c _ (by simp) (by rw [if_neg (fun z => by have := (List.cons.inj z).1; omega), la]; exact e5)
      rw [e1, e2, if_neg Bool.false_ne_true, obs, seqO_nx, obs, if_neg Bool.false_ne_true, obs, seqO_nx]
      rw [show kids (Wish.b k a c) = [a, c] from rfl, forO_2 (t := found ++ (Wish.b k a c, [(found.length : Int) + 1]) :: lays a ρ ((found.length : Int) + 1)) (u := found ++ ([(Wish.b k a c, [(found.length : Int) + 1, (found.length : Int) + 1 + sz a])] ++ (lays a ρ ((found.length : Int) + 1) ++ lays c ρ ((found.length : Int) + 1 + sz a))))]
      · rfl
      · exact e4
      · exact e6
    | q k n a =>
      obtain ⟨hkk, ha⟩ := hw
      have hd : dp a + 1 ≤ d + 1 := h
      have hn' : names.length + (dp a + 1) ≤ 900 := hn
      have hf' : (found.length : Int) + (1 + sz a) ≤ 900 := hf
      have e1 : decide ((Wish.q k n a).kind = ("name" : Str)) = false := by rcases hkk with rfl | rfl <;> rfl
      have e2 : pInS (Wish.q k n a).kind ([("least" : Str), "most"]) = some true := by rcases hkk with rfl | rfl <;> rfl
      have e3 := ih a (ns ++ [n]) (upN ρ n found.length) (names ++ [(n, (found.length : Int))]) (found ++ [(Wish.q k n a, [(found.length : Int) + 1])]) ha (by omega) (fun m hm => by
        rw [List.filter_append, List.map_append]
        unfold upN
        by_cases c : m = n
        · subst c
          rw [if_pos rfl]
          refine ⟨(names.filter fun p => decide (p.1 = m)).map (·.2), ?_⟩
          rw [List.filter_cons_of_pos (by simp)]; rfl
        · rw [if_neg c, List.filter_cons_of_neg (by simpa using Ne.symm c)]
          rcases List.mem_append.mp hm with z | z
          · obtain ⟨xs, e⟩ := hk m z
            exact ⟨xs, by rw [e]; simp⟩
          · exact absurd (List.mem_singleton.mp z) c) (by rw [List.length_append]; simp; omega) (by rw [List.length_append]; simp; omega)
      rw [len_app1, List.append_assoc] at e3
      have e4 := step (names ++ [(n, (found.length : Int))]) [(found.length : Int)] [] a _ (by simp) (by rw [if_pos rfl, List.nil_append, List.length_nil, show ((0 : Nat) : Int) = 0 from rfl, Int.add_zero]; exact e3)
      rw [e1, e2, if_neg Bool.false_ne_true, obs, seqO_nx, obs, if_pos rfl, show pW1S (Wish.q k n a) = some n from rfl, bind2_ss, bind2_ss, obs, pFew_p (by simp), bind2_ss, pCat_p (by simp; omega), obs, obs, seqO_nx]
      rw [show kids (Wish.q k n a) = [a] from rfl, forO_1 (t := found ++ ([(Wish.q k n a, [(found.length : Int) + 1])] ++ lays a (upN ρ n found.length) ((found.length : Int) + 1)))]
      · rfl
      · exact e4
end Cw
/- PLay3: the crowns and rows of the signs. -/
namespace Cw
open PySem PySem.Spec L2
open PyProof.Rows hiding St
def isQ : Wish → Int
  | .q _ _ _ => 1
  | _ => 0
def bnd : Wish → Int
  | .i _ _ => 0
  | .s _ _ => 0
  | .u _ a => bnd a + isQ a
  | .b _ a c => (bnd a + isQ a) + (bnd c + isQ c)
  | .q _ _ a => bnd a + isQ a
theorem kids_bnd (w : Wish) : ((kids w).map fun x => bnd x + isQ x).sum = bnd w := by cases w <;> simp [kids, bnd]
theorem isQ_t {w : Wish} {ns : List Str} (h : Wf ns w) : (pInS w.kind ([("least" : Str), "most"])).bind pInt1 = some (isQ w) := by
  cases w with
  | i k c => rcases h with rfl | rfl <;> rfl
  | s k n => obtain ⟨rfl, _⟩ := h; rfl
  | u k a => obtain ⟨rfl | rfl, _⟩ := h <;> rfl
  | b k a c => obtain ⟨rfl | rfl, _⟩ := h <;> rfl
  | q k n a => obtain ⟨rfl | rfl, _⟩ := h <;> rfl
theorem binders_t : ∀ (d : Nat) {w : Wish} {ns : List Str}, Wf ns w → dp w ≤ d → m_binders d w = some (bnd w)
  | 0, w, _, _, h => by have := dp_pos w; omega
  | d + 1, w, ns, hw, h => by
    show (mo_binders (m_binders d) w).bind outR = _
    unfold mo_binders
    have hl := kids_len w
    simp only [obs, bind2_ss, pCons_eq, parts_t hw, pFew_p (xs := ([("least" : Str), "most"])) (by simp)]
    rw [lcO_map (g := fun x => bnd x + isQ x) (fun x hx => by rw [binders_t d (kids_wf hw x hx) (by have := kids_dp x hx; omega), isQ_t (kids_wf hw x hx), bind2_ss, pAdd_eq]), obs, pMany_p (by rw [List.length_map]; omega)]
    simp only [obs, pSum_eq, outR_rt, kids_bnd]
theorem law_binders_t : ∀ (d : Nat) {w : Wish} {ns : List Str}, Wf ns w → dp w ≤ d → m_law_binders d w = some (bnd w)
  | 0, w, _, _, h => by have := dp_pos w; omega
  | d + 1, w, ns, hw, h => by
    show (mo_law_binders (m_law_binders d) w).bind outR = _
    unfold mo_law_binders
    simp only [obs, bind2_ss, pCons_eq, law_parts_t hw, pFew_p (xs := ([("least" : Str), "most"])) (by simp)]
    rw [forO_fold (g := fun (s : Int) x => s + bnd x + isQ x) (fun s x hx => by rw [law_binders_t d (kids_wf hw x hx) (by have := kids_dp x hx; omega), isQ_t (kids_wf hw x hx), bind2_ss, pAdd_eq, bind2_ss, pAdd_eq, obs])]
    simp only [obs, seqO_nx, outR_rt]
    congr 1
    cases w <;> simp [kids, bnd] <;> omega
/- the crown of a sign at a place with crown c -/
def crn (w : Wish) (c : Int) : Int :=
  match w with
  | .i k x => if (decide (x = c) = decide (k = ("is" : Str))) then 0 else 1
  | .q k n a => 2 * bnd (.q k n a) + (if k = ("least" : Str) then 1 else 0)
  | _ => 0
theorem bnd_nn : ∀ w : Wish, 0 ≤ bnd w ∧ 0 ≤ isQ w
  | .i _ _ => ⟨Int.le_refl _, Int.le_refl _⟩
  | .s _ _ => ⟨Int.le_refl _, Int.le_refl _⟩
  | .u _ a => by have := bnd_nn a; exact ⟨by show 0 ≤ bnd a + isQ a; omega, Int.le_refl _⟩
  | .b _ a c => by have := bnd_nn a; have := bnd_nn c; exact ⟨by show 0 ≤ (bnd a + isQ a) + (bnd c + isQ c); omega, Int.le_refl _⟩
  | .q _ _ a => by have := bnd_nn a; exact ⟨by show 0 ≤ bnd a + isQ a; omega, by show (0 : Int) ≤ 1; omega⟩
theorem crown_t {w : Wish} {ns : List Str} (hw : Wf ns w) (hd : dp w ≤ 30) (c : Int) : m_crown_of w c = some (crn w c) := by
  unfold m_crown_of mo_crown_of
  simp only [obs, bind2_ss, pCons_eq, binders_t 30 hw hd, pEqS_eq, pMul_l (i := 2) (by decide), pAdd_eq]
  cases w with
  | i k x =>
    rcases hw with rfl | rfl
    · show (((((pNe x c).bind pInt1).bind fun a => some (Out.rt a)).bind (seqO noE))).bind outR = _
      rw [outR_b, pNe_eq, obs, pInt1_eq]
      show _ = some (if (decide (x = c) = true) then 0 else 1)
      by_cases e : x = c <;> simp [e]
    · show (((((pEq x c).bind pInt1).bind fun a => some (Out.rt a)).bind (seqO noE))).bind outR = _
      rw [outR_b, pEq_eq, obs, pInt1_eq]
      show _ = some (if (decide (x = c) = false) then 0 else 1)
      by_cases e : x = c <;> simp [e]
  | s k n => obtain ⟨rfl, _⟩ := hw; rfl
  | u k a => obtain ⟨rfl | rfl, _⟩ := hw <;> rfl
  | b k a c => obtain ⟨rfl | rfl, _⟩ := hw <;> rfl
  | q k n a =>
    obtain ⟨rfl | rfl, _⟩ := hw
    · rfl
    · show some (2 * bnd (.q "most" n a)) = some (2 * bnd (.q "most" n a) + 0)
      rw [Int.add_zero]
theorem law_crown_t {w : Wish} {ns : List Str} (hw : Wf ns w) (hd : dp w ≤ 30) (c : Int) : m_law_crown w c = some (crn w c) := by
  unfold m_law_crown mo_law_crown
  simp only [obs, bind2_ss, pCons_eq, law_binders_t 30 hw hd, pEqS_eq, pMul_l (i := 2) (by decide), pAdd_eq, oOr_ss]
  cases w with
  | i k x =>
    rcases hw with rfl | rfl
    · show (((((bind2 (pEq x c) (some true) pNeB).bind pInt1).bind fun a => some (Out.rt a)).bind (seqO noE))).bind outR = _
      rw [outR_b, pEq_eq, bind2_ss]
      show ((some (!decide (decide (x = c) = true))).bind pInt1) = some (if (decide (x = c) = true) then 0 else 1)
      by_cases e : x = c <;> simp [e] <;> rfl
    · show (((((bind2 (pEq x c) (some false) pNeB).bind pInt1).bind fun a => some (Out.rt a)).bind (seqO noE))).bind outR = _
      rw [outR_b, pEq_eq, bind2_ss]
      show ((some (!decide (decide (x = c) = false))).bind pInt1) = some (if (decide (x = c) = false) then 0 else 1)
      by_cases e : x = c <;> simp [e] <;> rfl
  | s k n => obtain ⟨rfl, _⟩ := hw; rfl
  | u k a => obtain ⟨rfl | rfl, _⟩ := hw <;> rfl
  | b k a c => obtain ⟨rfl | rfl, _⟩ := hw <;> rfl
  | q k n a => obtain ⟨rfl | rfl, _⟩ := hw <;> rfl
end Cw
/- PLay4: the rows of a wish's game, by the program's def and the law's. -/
namespace Cw
open PySem PySem.Spec L2
open PyProof.Rows hiding St
structure SgOk (N : Int) (x : Wish × List Int) : Prop where
  wf : ∃ ns, Wf ns x.1
  dp : dp x.1 ≤ 30
  ne : x.2 ≠ []
  few : x.2.length ≤ 2
  inc : x.2.Pairwise (· < ·)
  rng : ∀ y ∈ x.2, 0 ≤ y ∧ y < N
theorem lays_ok {N : Int} : ∀ (w : Wish) {ns : List Str} {ρ : Str → Int} {p : Int}, Wf ns w → dp w ≤ 30 → 0 ≤ p → p + sz w ≤ N → (∀ m ∈ ns, 0 ≤ ρ m ∧ ρ m < N) → ∀ x ∈ lays w ρ p, SgOk N x
  | .i k c, ns, ρ, p, hw, hd, h0, h1, hr, x, hx => by
    have h1 : p + 1 ≤ N := h1
    rw [List.mem_singleton.mp hx]
    exact ⟨⟨ns, hw⟩, hd, by simp, by simp, List.pairwise_singleton _ _, fun y hy => by rw [List.mem_singleton.mp hy]; omega⟩
  | .s k n, ns, ρ, p, hw, hd, h0, h1, hr, x, hx => by
    rw [List.mem_singleton.mp hx]
    exact ⟨⟨ns, hw⟩, hd, by simp, by simp, List.pairwise_singleton _ _, fun y hy => by rw [List.mem_singleton.mp hy]; exact hr n hw.2⟩
  | .u k a, ns, ρ, p, hw, hd, h0, h1, hr, x, hx => by
    have h1 : p + (1 + sz a) ≤ N := h1
    have hd' : dp a + 1 ≤ 30 := hd
    have sa := sz_pos a
    rcases List.mem_cons.mp hx with rfl | hx
    · exact ⟨⟨ns, hw⟩, hd, by simp, by simp, List.pairwise_singleton _ _, fun y hy => by rw [List.mem_singleton.mp hy]; omega⟩
    · exact lays_ok a hw.2 (by omega) (by omega) (by omega) hr x hx
  | .b k a c, ns, ρ, p, hw, hd, h0, h1, hr, x, hx => by
    have h1 : p + (1 + (sz a + sz c)) ≤ N := h1
    have hd' : max (dp a) (dp c) + 1 ≤ 30 := hd
    have sa := sz_pos a
    have sc := sz_pos c
    rcases List.mem_cons.mp hx with rfl | hx
    · refine ⟨⟨ns, hw⟩, hd, by simp, by simp, by simp; omega, fun y hy => ?_⟩
      rcases List.mem_cons.mp hy with rfl | hy
      · omega
      · rw [List.mem_singleton.mp hy]; omega
    · rcases List.mem_append.mp hx with hx | hx
      · exact lays_ok a hw.2.1 (by omega) (by omega) (by omega) hr x hx
      · exact lays_ok c hw.2.2 (by omega) (by omega) (by omega) hr x hx
  | .q k n a, ns, ρ, p, hw, hd, h0, h1, hr, x, hx => by
    have h1 : p + (1 + sz a) ≤ N := h1
    have hd' : dp a + 1 ≤ 30 := hd
    have sa := sz_pos a
    rcases List.mem_cons.mp hx with rfl | hx
    · exact ⟨⟨ns, hw⟩, hd, by simp, by simp, List.pairwise_singleton _ _, fun y hy => by rw [List.mem_singleton.mp hy]; omega⟩
    · refine lays_ok a hw.2 (by omega) (by omega) (by omega) (fun m hm => ?_) x hx
      unfold upN
      by_cases c : m = n
      · rw [if_pos c]; omega
      · rw [if_neg c]
        rcases List.mem_append.mp hm with z | z
        · exact hr m z
        · exact absurd (List.mem_singleton.mp z) c
/- the row of sign x at place i -/
def isUA (w : Wish) : Bool := decide (w.kind = ("all" : Str)) || decide (w.kind = ("some" : Str))
def isAA (w : Wish) : Bool := decide (w.kind = ("and" : Str)) || decide (w.kind = ("all" : Str))
def gWays (g : List Pl) (N i : Int) (x : Wish × List Int) : List Int := (if isUA x.1 = true then (gp g i).2.2 else [i]).flatMap fun st => x.2.map fun y => st * N + y
def gRow (g : List Pl) (N i : Int) (x : Wish × List Int) : Pl := (if isAA x.1 = true then 1 else 0, crn x.1 (gp g i).2.1, gWays g N i x)
theorem forO_app {α β R : Type} {f : List β → α → Option (Out (List β) R)} {G : α → List β} {B : Nat} : ∀ {xs : List α} {s : List β}, s.length + (xs.flatMap G).length ≤ B → (∀ s x, x ∈ xs → s.length + (G x).length ≤ B → f s x = some (.nx (s ++ G x))) → forO f xs s = some (.nx (s ++ xs.flatMap G))
  | [], s, _, _ => by rw [List.flatMap_nil, List.append_nil]; rfl
  | x :: xs, s, hl, h => by
    rw [List.flatMap_cons, List.length_append] at hl
    show (f s x).bind _ = _
    rw [h s x List.mem_cons_self (by omega)]
    show forO f xs (s ++ G x) = _
    rw [forO_app (B := B) (by rw [List.length_append]; omega) fun s y hy => h s y (List.mem_cons_of_mem _ hy), List.flatMap_cons, List.append_assoc]
theorem flatMap_single {α β : Type} {f : α → β} {xs : List α} : (xs.flatMap fun x => [f x]) = xs.map f := by
  induction xs with
  | nil => rfl
  | cons x r ih => rw [List.flatMap_cons, ih]; rfl
theorem flatMap_len {α β : Type} {f : α → List β} {xs : List α} {L : Nat} (h : ∀ x ∈ xs, (f x).length ≤ L) : (xs.flatMap f).length ≤ xs.length * L := by
  induction xs with
  | nil => simp
  | cons x r ih =>
    rw [List.flatMap_cons, List.length_append, List.length_cons, Nat.succ_mul]
    have := ih fun y hy => h y (List.mem_cons_of_mem _ hy)
    have := h x List.mem_cons_self
    omega
theorem gWays_len {g : List Pl} {N i : Int} {x : Wish × List Int} (hx : x.2.length ≤ 2) (hg : (gp g i).2.2.length ≤ 24) : (gWays g N i x).length ≤ 48 := by
  unfold gWays
  refine Nat.le_trans (flatMap_len (L := 2) fun st _ => by rw [List.length_map]; exact hx) ?_
  split
  · omega
  · simp
section
variable {g : List Pl} {N : Int}
theorem row_t (hN : 0 ≤ N ∧ N ≤ 1000) {i : Int} {x : Wish × List Int} (X : SgOk N x) (hg : (gp g i).2.2.length ≤ 24) : m_row_of18 (gp g i) i x N = some (gRow g N i x) := by
  obtain ⟨ns, hw⟩ := X.wf
  have hx := X.few
  unfold m_row_of18 mo_row_of18
  simp only [obs, bind2_ss, pCons_eq, pFew_p (xs := [i]) (by simp), pFew_p (xs := ([] : List Int)) (by simp), pFew_p (xs := ([("all" : Str), "some"])) (by simp), pFew_p (xs := ([("and" : Str), "all"])) (by simp), pId_eq, crown_t hw X.dp]
  have e1 : pInS x.1.kind ([("all" : Str), "some"]) = some (isUA x.1) := by
    unfold pInS isUA
    congr 1
    rw [Bool.eq_iff_iff, inS_iff]
    simp
  have e2 : pInS x.1.kind ([("and" : Str), "all"]) = some (isAA x.1) := by
    unfold pInS isAA
    congr 1
    rw [Bool.eq_iff_iff, inS_iff]
    simp
  rw [e1, e2]
  simp only [obs, pInt1_eq, ite_some]
  have e3 : ∀ (st : List Int), st.length ≤ 24 → forO (R := Int × Int × List Int) (fun (s2 : List Int) (start : Int) => (forO (fun (s3 : List Int) (number : Int) => ((bind2 (pMul start N) (some number) pAdd).bind fun a => pApp s3 a).bind fun ways => some (Out.nx ways)) x.2 s2).bind (seqO fun s3 => some (Out.nx s3))) st [] = some (.nx (st.flatMap fun st => x.2.map fun y => st * N + y)) := by
    intro st hst
    rw [forO_app (G := fun st => x.2.map fun y => st * N + y) (B := 100) (s := [])]
    · rfl
    · have := flatMap_len (xs := st) (f := fun st => x.2.map fun y => st * N + y) (L := 2) fun z _ => by rw [List.length_map]; exact hx
      simp only [List.length_nil]
      omega
    · intro s z hz hl
      rw [List.length_map] at hl
      rw [forO_app (G := fun y => [z * N + y]) (B := 100)]
      · rw [flatMap_single]; rfl
      · rw [flatMap_single, List.length_map]; omega
      · intro s' y hy hl'
        rw [pMul_r (by omega), bind2_ss, pAdd_eq, obs, pApp_p (by simp at hl'; omega)]; rfl
  cases c : isUA x.1 with
  | true =>
    simp only [if_true, obs, seqO_nx]
    rw [e3 _ hg]
    simp only [obs, seqO_nx, outR_rt]
    unfold gRow gWays
    rw [c]; rfl
  | false =>
    simp only [Bool.false_eq_true, if_false, obs, seqO_nx]
    rw [e3 _ (by simp)]
    simp only [obs, seqO_nx, outR_rt]
    unfold gRow gWays
    rw [c]; rfl
end
end Cw
/- PLay5: the game of a wish. -/
namespace Cw
open PySem PySem.Spec L2
open PyProof.Rows hiding St
def allRows (g : List Pl) (N : Int) (sg : List (Wish × List Int)) : List Pl := (upF 0 g.length).flatMap fun i => sg.map fun x => gRow g N i x
theorem pw_flat {N : Int} {ns : List Int} (h2 : ns.Pairwise (· < ·)) (h3 : ∀ y ∈ ns, 0 ≤ y ∧ y < N) : ∀ {st : List Int}, st.Pairwise (· < ·) → (st.flatMap fun st => ns.map fun y => st * N + y).Pairwise (· < ·)
  | [], _ => .nil
  | s :: st, h => by
    obtain ⟨a, c⟩ := List.pairwise_cons.mp h
    rw [List.flatMap_cons, List.pairwise_append]
    refine ⟨?_, pw_flat h2 h3 c, ?_⟩
    · rw [List.pairwise_map]
      exact h2.imp fun z => by omega
    · intro x hx y hy
      obtain ⟨y1, hy1, rfl⟩ := List.mem_map.mp hx
      obtain ⟨s2, hs2, hy⟩ := List.mem_flatMap.mp hy
      obtain ⟨y2, hy2, rfl⟩ := List.mem_map.mp hy
      have q := a s2 hs2
      have q1 := h3 y1 hy1
      have q2 := h3 y2 hy2
      have := Int.mul_le_mul_of_nonneg_right (show s + 1 ≤ s2 by omega) (show 0 ≤ N by omega)
      rw [Int.add_mul, Int.one_mul] at this
      omega
theorem rng_flat {N n : Int} {ns st : List Int} (h3 : ∀ y ∈ ns, 0 ≤ y ∧ y < N) (h : ∀ s ∈ st, 0 ≤ s ∧ s < n) : ∀ v ∈ (st.flatMap fun st => ns.map fun y => st * N + y), 0 ≤ v ∧ v < n * N := by
  intro v hv
  obtain ⟨s, hs, hv⟩ := List.mem_flatMap.mp hv
  obtain ⟨y, hy, rfl⟩ := List.mem_map.mp hv
  have q1 := h3 y hy
  have q := h s hs
  have a := Int.mul_le_mul_of_nonneg_right (show s + 1 ≤ n by omega) (show 0 ≤ N by omega)
  have c := Int.mul_nonneg q.1 (show 0 ≤ N by omega)
  rw [Int.add_mul, Int.one_mul] at a
  omega
theorem srt_id {xs : List Int} (h : xs.Pairwise (· < ·)) : srt xs = xs :=
  (srt_perm xs).eq_of_pairwise (fun a b _ _ h1 h2 => by omega) (srt_sorted xs) (h.imp fun z => by omega)
section
variable {g : List Pl} {N : Int} {n : Nat} {lo sp : Int}
theorem gWays_ok (G : GmOk n lo sp g) {i : Int} (hi : 0 ≤ i ∧ i < n) {x : Wish × List Int} (X : SgOk N x) : gWays g N i x ≠ [] ∧ (gWays g N i x).Pairwise (· < ·) ∧ ∀ v ∈ gWays g N i x, 0 ≤ v ∧ v < n * N := by
  have P := G.pl hi.1 hi.2
  have hst : (if isUA x.1 = true then (gp g i).2.2 else [i]) ≠ [] ∧ (if isUA x.1 = true then (gp g i).2.2 else [i]).Pairwise (· < ·) ∧ ∀ s ∈ (if isUA x.1 = true then (gp g i).2.2 else [i]), 0 ≤ s ∧ s < (n : Int) := by
    split
    · exact ⟨P.ne, P.inc, P.rng⟩
    · exact ⟨by simp, List.pairwise_singleton _ _, fun s hs => by rw [List.mem_singleton.mp hs]; exact hi⟩
  refine ⟨?_, pw_flat X.inc X.rng hst.2.1, rng_flat X.rng hst.2.2⟩
  unfold gWays
  obtain ⟨a, r, e⟩ := List.exists_cons_of_ne_nil hst.1
  obtain ⟨y, r', e'⟩ := List.exists_cons_of_ne_nil X.ne
  rw [e, e', List.flatMap_cons]
  simp
theorem rows_len {sg : List (Wish × List Int)} : (allRows g N sg).length = g.length * sg.length := by
  unfold allRows
  generalize hG : (fun i => sg.map fun x => gRow g N i x) = F
  have hF : ∀ i, (F i).length = sg.length := fun i => by rw [← hG]; simp
  have : ∀ l : List Int, (l.flatMap F).length = l.length * sg.length := by
    intro l
    induction l with
    | nil => simp
    | cons x r ih => rw [List.flatMap_cons, List.length_append, List.length_cons, Nat.succ_mul, ih, hF]; omega
  rw [this, upF_len]
theorem made_rows (G : GmOk n lo sp g) {sg : List (Wish × List Int)} (hs : ∀ x ∈ sg, SgOk N x) (hN : (sg.length : Int) = N) (h1 : 1 ≤ n) (hp : 1 ≤ N) (h24 : n * N ≤ 24) : m_made (allRows g N sg) = some (.ok (allRows g N sg)) := by
  have hl : (allRows g N sg).length = g.length * sg.length := rows_len
  have hl' : ((allRows g N sg).length : Int) = n * N := by rw [hl, Int.natCast_mul, hN, G.len]
  have hpos : 1 ≤ (n : Int) * N := by
    have := Int.mul_le_mul (show (1 : Int) ≤ n by omega) hp (by omega) (by omega)
    omega
  have row : ∀ r ∈ allRows g N sg, ∃ i x, (0 ≤ i ∧ i < (n : Int)) ∧ x ∈ sg ∧ r = gRow g N i x := fun r hr => by
    obtain ⟨i, hi, hr⟩ := List.mem_flatMap.mp hr
    obtain ⟨x, hx, rfl⟩ := List.mem_map.mp hr
    have := mem_upF.mp hi
    rw [G.len] at this
    exact ⟨i, x, ⟨this.1, by omega⟩, hx, rfl⟩
  rw [made_eq (by omega) (fun r hr => by
    obtain ⟨i, x, hi, hx, rfl⟩ := row r hr
    have := gWays_len (N := N) (hs x hx).few (G.pl hi.1 hi.2).few
    show (gWays g N i x).length < 64
    omega), if_pos (by omega)]
  have e : fstBad (allRows g N sg) = none := by
    unfold fstBad
    rw [List.findSome?_eq_none_iff]
    intro r hr
    obtain ⟨i, x, hi, hx, rfl⟩ := row r hr
    obtain ⟨a, c, d⟩ := gWays_ok G hi (hs x hx)
    rw [badK_none]
    refine ⟨a, ?_, c.imp fun z e => by omega⟩
    rw [hl']
    exact d
  rw [e]
  show some (Ret.ok ((allRows g N sg).map okRow)) = _
  congr 2
  refine (List.map_congr_left fun r hr => ?_).trans (List.map_id _)
  obtain ⟨i, x, hi, hx, rfl⟩ := row r hr
  obtain ⟨a, c, d⟩ := gWays_ok G hi (hs x hx)
  show ((gRow g N i x).1, (gRow g N i x).2.1, srt (gWays g N i x)) = gRow g N i x
  rw [srt_id c]; rfl
theorem rows_t (G : GmOk n lo sp g) {w : Wish} (hw : Wf [] w) (hd : dp w ≤ 30) (hsz : sz w ≤ 100) (hn : n ≤ 100) : m_law_rows_of g w = some (allRows g (sz w) (lays w (fun _ => 0) 0)) := by
  unfold m_law_rows_of mo_law_rows_of
  have hN := lays_len w (fun _ => 0) 0
  have sp1 := sz_pos w
  have hs := lays_ok (N := sz w) w (ns := []) (ρ := fun _ => 0) (p := 0) hw hd (by omega) (by omega) (fun m hm => by simp at hm)
  have e := law_lay_t 30 (found := []) (names := []) (ρ := fun _ => 0) hw hd (fun m hm => by simp at hm) (by simp; omega) (by simp; omega)
  rw [List.nil_append, List.length_nil, show ((0 : Nat) : Int) = 0 from rfl] at e
  simp only [qbo, obs, bind2_ss, pCons_eq, pFew_p (xs := ([] : List (Str × Int))) (by simp), pFew_p (xs := ([] : List Pl)) (by simp), pFew_p (xs := ([] : List Int)) (by simp), e, pLen_eq, hN, pId_eq]
  generalize hsg : lays w (fun _ => 0) 0 = sg at hs hN e
  generalize sz w = N at *
  rw [pRng_p (by omega) (by have := G.len; omega), obs, Int.toNat_natCast]
  rw [forO_app (G := fun i => sg.map fun x => gRow g N i x) (B := 100000) (s := [])]
  · simp only [obs, seqO_nx, outR_rt]
    rfl
  · have h1 := rows_len (g := g) (N := N) (sg := sg)
    unfold allRows at h1
    have h2 : g.length * sg.length ≤ 100 * 100 := Nat.mul_le_mul (by have := G.len; omega) (by omega)
    simp only [List.length_nil]
    omega
  · intro s i hi hl
    have hi := mem_upF.mp hi
    rw [G.len] at hi
    have hi : 0 ≤ i ∧ i < (n : Int) := by omega
    have P := G.pl hi.1 hi.2
    have ea := G.at hi.1 hi.2
    rw [forO_app (G := fun x => [gRow g N i x]) (B := 100000)]
    · rw [flatMap_single]; rfl
    · rw [flatMap_single]; exact hl
    · intro s' x hx hl'
      have X := hs x hx
      obtain ⟨ns, wf⟩ := X.wf
      simp only [ea, obs, bind2_ss, pFew_p (xs := [i]) (by simp), pEqS_eq, oOr_ss, law_crown_t wf X.dp, pInt1_eq, pId_eq, pCons_eq]
      have e3 : ∀ (st : List Int), st.length ≤ 24 → forO (R := List Pl) (fun (s5 : List Int) (start : Int) => (bind2 (some s5) ((lcO (fun _ => some true) (fun number => bind2 (pMul start N) (some number) pAdd) x.2).bind pMany) pCat).bind fun ways => some (Out.nx ways)) st [] = some (.nx (st.flatMap fun st => x.2.map fun y => st * N + y)) := by
        intro st hst
        rw [forO_app (G := fun st => x.2.map fun y => st * N + y) (B := 100) (s := [])]
        · rfl
        · have := flatMap_len (xs := st) (f := fun st => x.2.map fun y => st * N + y) (L := 2) fun z _ => by rw [List.length_map]; exact X.few
          simp only [List.length_nil]
          omega
        · intro s z hz hl
          rw [lcO_map (g := fun y => z * N + y) (fun y _ => by rw [pMul_r (by omega), bind2_ss, pAdd_eq]), obs, pMany_p (by rw [List.length_map]; have := X.few; omega), bind2_ss, pCat_p (by omega), obs]
      have fin : ∀ st, st = (if isUA x.1 = true then (gp g i).2.2 else [i]) → st.length ≤ 24 → ((forO (R := List Pl) (fun (s5 : List Int) (start : Int) => (bind2 (some s5) ((lcO (fun _ => some true) (fun number => bind2 (pMul start N) (some number) pAdd) x.2).bind pMany) pCat).bind fun ways => some (Out.nx ways)) st []).bind (seqO fun s5 => (pApp s' ((if (decide (x.1.kind = ("and" : Str)) || decide (x.1.kind = ("all" : Str))) = true then 1 else 0), crn x.1 (gp g i).2.1, s5)).bind fun rows => some (Out.nx rows))) = some (.nx (s' ++ [gRow g N i x])) := by
        intro st est hst
        rw [e3 st hst, obs, seqO_nx, pApp_p (by simp at hl'; omega), obs]
        unfold gRow gWays
        rw [← est]
        rfl
      by_cases c : isUA x.1 = true
      · rw [if_pos (show (decide (x.1.kind = ("all" : Str)) || decide (x.1.kind = ("some" : Str))) = true from c), obs, seqO_nx]
        exact fin _ (by rw [if_pos c]) P.few
      · rw [if_neg (show ¬ (decide (x.1.kind = ("all" : Str)) || decide (x.1.kind = ("some" : Str))) = true from c), obs, seqO_nx]
        exact fin _ (by rw [if_neg c]) (by simp)
end
end Cw
/- PLay6: names that nothing binds; the game of a wish by the program's def. -/
namespace Cw
open PySem PySem.Spec L2
open PyProof.Rows hiding St
/- the kinds are right -/
def Sh : Wish → Prop
  | .i k _ => k = "is" ∨ k = "not"
  | .s k _ => k = "name"
  | .u k a => (k = "all" ∨ k = "some") ∧ Sh a
  | .b k a c => (k = "and" ∨ k = "or") ∧ Sh a ∧ Sh c
  | .q k _ a => (k = "least" ∨ k = "most") ∧ Sh a
def bdB : List Str → Wish → Bool
  | _, .i _ _ => true
  | ns, .s _ n => decide (n ∈ ns)
  | ns, .u _ a => bdB ns a
  | ns, .b _ a c => bdB ns a && bdB ns c
  | ns, .q _ n a => bdB (ns ++ [n]) a
theorem wf_sh : ∀ {w : Wish} {ns : List Str}, Wf ns w → Sh w ∧ bdB ns w = true
  | .i _ _, _, h => ⟨h, rfl⟩
  | .s _ _, _, h => ⟨h.1, decide_eq_true h.2⟩
  | .u _ _, _, h => ⟨⟨h.1, (wf_sh h.2).1⟩, (wf_sh h.2).2⟩
  | .b _ _ _, _, h => ⟨⟨h.1, (wf_sh h.2.1).1, (wf_sh h.2.2).1⟩, by
      show (bdB _ _ && bdB _ _) = true
      rw [(wf_sh h.2.1).2, (wf_sh h.2.2).2]; rfl⟩
  | .q _ _ _, _, h => ⟨⟨h.1, (wf_sh h.2).1⟩, (wf_sh h.2).2⟩
theorem parts_s : ∀ {w : Wish}, Sh w → m_parts_of w = some (kids w)
  | .i k c, h => by rcases h with rfl | rfl <;> rfl
  | .s k n, h => by cases (show k = "name" from h); rfl
  | .u k a, ⟨h, _⟩ => by rcases h with rfl | rfl <;> rfl
  | .b k a c, ⟨h, _⟩ => by rcases h with rfl | rfl <;> rfl
  | .q k n a, ⟨h, _⟩ => by rcases h with rfl | rfl <;> rfl
theorem kids_sh : ∀ {w : Wish}, Sh w → ∀ x ∈ kids w, Sh x
  | .i _ _, _, x, h => by simp [kids] at h
  | .s _ _, _, x, h => by simp [kids] at h
  | .u _ a, w, x, h => by rw [List.mem_singleton.mp h]; exact w.2
  | .b _ a c, w, x, h => by
    rcases List.mem_cons.mp h with rfl | h
    · exact w.2.1
    · rw [List.mem_singleton.mp h]; exact w.2.2
  | .q _ n a, w, x, h => by rw [List.mem_singleton.mp h]; exact w.2
def retL (t : Bool) : Ret Unit := if t = true then .ok () else .ex "Loose"
theorem find_if {α β : Type} {p : α → Bool} {r : β} : ∀ {xs : List α}, xs.findSome? (fun x => if p x = true then none else some r) = if xs.all p = true then none else some r
  | [] => rfl
  | x :: xs => by
    rw [List.findSome?_cons, List.all_cons]
    cases p x with
    | true => rw [if_pos rfl, Bool.true_and]; exact find_if
    | false => rfl
theorem bdB_kids : ∀ {w : Wish} {ns : List Str}, (∀ k n, w ≠ .s k n) → bdB ns w = (kids w).all (bdB (inn ns w))
  | .i _ _, _, _ => rfl
  | .s k n, _, h => absurd rfl (h k n)
  | .u _ a, ns, _ => by show bdB ns a = (bdB ns a && true); rw [Bool.and_true]
  | .b _ a c, ns, _ => by show (bdB ns a && bdB ns c) = (bdB ns a && (bdB ns c && true)); rw [Bool.and_true]
  | .q _ n a, ns, _ => by show bdB (ns ++ [n]) a = (bdB (ns ++ [n]) a && true); rw [Bool.and_true]
theorem bound18_t : ∀ (d : Nat) {w : Wish} {ns : List Str}, Sh w → dp w ≤ d → ns.length + d ≤ 900 → m_bound18 d w ns = some (retL (bdB ns w))
  | 0, w, _, _, h, _ => by have := dp_pos w; omega
  | d + 1, w, ns, hw, h, hn => by
    show (mo_bound18 (m_bound18 d) w ns).bind outXU = _
    unfold mo_bound18
    have hk := parts_s hw
    simp only [obs, bind2_ss, pEqS_eq, pCons_eq, hk, pFew_p (xs := ([("least" : Str), "most"])) (by simp)]
    have ih : ∀ x ∈ kids w, m_bound18 d x (inn ns w) = some (retL (bdB (inn ns w) x)) := fun x hx => by
      have hl : (inn ns w).length ≤ ns.length + 1 := by cases w <;> simp [inn]
      exact bound18_t d (kids_sh hw x hx) (by have := kids_dp x hx; omega) (by omega)
    by_cases hs : ∃ k n, w = .s k n
    · obtain ⟨k, n, rfl⟩ := hs
      cases (show k = "name" from hw)
      show (((oAnd (some true) (pNotInS n ns)).bind _).bind outXU) = some (retL (decide (n ∈ ns)))
      rw [oAnd_t]
      unfold pNotInS
      rw [obs]
      by_cases c : n ∈ ns
      · rw [inS_iff.mpr c, decide_eq_true c]; rfl
      · rw [show inS n ns = false from by rw [Bool.eq_false_iff]; exact fun z => c (inS_iff.mp z), decide_eq_false c]; rfl
    · have hs' : ∀ k n, w ≠ .s k n := fun k n z => hs ⟨k, n, z⟩
      have e0 : oAnd (some (decide (w.kind = ("name" : Str)))) (bind2 (pW1S w) (some ns) pNotInS) = some false := by
        cases w with
        | i k c => rcases hw with rfl | rfl <;> rfl
        | s k n => exact absurd rfl (hs' k n)
        | u k a => obtain ⟨rfl | rfl, _⟩ := hw <;> rfl
        | b k a c => obtain ⟨rfl | rfl, _⟩ := hw <;> rfl
        | q k n a => obtain ⟨rfl | rfl, _⟩ := hw <;> rfl
      rw [e0, obs, if_neg Bool.false_ne_true]
      rw [forO_fst (c := fun x => if bdB (inn ns w) x = true then none else some (Ret.ex "Loose")) (fun x hx => ?_)]
      · rw [find_if, ← bdB_kids hs']
        cases bdB ns w <;> rfl
      · have ih := ih x hx
        cases w with
        | i k c => simp [kids] at hx
        | s k n => exact absurd rfl (hs' k n)
        | u k a =>
          have e1 : pInS (Wish.u k a).kind ([("least" : Str), "most"]) = some false := by obtain ⟨rfl | rfl, _⟩ := hw <;> rfl
          rw [e1, obs, if_neg Bool.false_ne_true]
          have ih : m_bound18 d x ns = some (retL (bdB ns x)) := ih
          rw [ih, obs]
          rw [show inn ns (Wish.u k a) = ns from rfl]
          cases bdB ns x <;> rfl
        | b k a c =>
          have e1 : pInS (Wish.b k a c).kind ([("least" : Str), "most"]) = some false := by obtain ⟨rfl | rfl, _⟩ := hw <;> rfl
          rw [e1, obs, if_neg Bool.false_ne_true]
          have ih : m_bound18 d x ns = some (retL (bdB ns x)) := ih
          rw [ih, obs]
          rw [show inn ns (Wish.b k a c) = ns from rfl]
          cases bdB ns x <;> rfl
        | q k n a =>
          have e1 : pInS (Wish.q k n a).kind ([("least" : Str), "most"]) = some true := by obtain ⟨rfl | rfl, _⟩ := hw <;> rfl
          rw [e1, obs, if_pos rfl]
          have ih : m_bound18 d x (ns ++ [n]) = some (retL (bdB (ns ++ [n]) x)) := ih
          rw [show pW1S (Wish.q k n a) = some n from rfl, bind2_ss, obs, pFew_p (by simp), bind2_ss, pCat_p (by simp; omega), bind2_ss, pCons_eq, bind2_ss, pCons_eq, obs, ih, obs]
          rw [show inn ns (Wish.q k n a) = ns ++ [n] from rfl]
          cases bdB (ns ++ [n]) x <;> rfl
theorem retL_t : retL true = .ok () := eqOf rfl
theorem thenX_okL {α S R : Type} (f : α → Option (Out S (Ret R))) (a : α) : thenX f (.ok a) = f a := eqOf rfl
section
variable {g : List Pl} {n : Nat} {lo sp : Int}
theorem game18_loose {w : Wish} (hw : Sh w) (hd : dp w ≤ 30) (hb : bdB [] w = false) : m_wish_game g w = some (.ex "Loose") := by
  unfold m_wish_game mo_wish_game
  simp only [obs, pFew_p (xs := ([] : List Str)) (by simp), bind2_ss, pCons_eq, bound18_t 30 (ns := []) hw hd (by simp), hb]
  rfl
theorem holds18_loose {w : Wish} (hw : Sh w) (hd : dp w ≤ 30) (hb : bdB [] w = false) : m_holds18 g w = some (.ex "Loose") := by
  unfold m_holds18 mo_holds18
  simp only [obs, pFew_p (xs := ([] : List Str)) (by simp), bind2_ss, pCons_eq, bound18_t 30 (ns := []) hw hd (by simp), hb]
  rfl
theorem game18_t (G : GmOk n lo sp g) {w : Wish} (hw : Wf [] w) (hd : dp w ≤ 30) (hsz : sz w ≤ 100) (hn : 1 ≤ n ∧ n ≤ 100) : m_wish_game g w = some (if 24 < n * sz w then .ex "TooMany" else .ok (allRows g (sz w) (lays w (fun _ => 0) 0))) := by
  unfold m_wish_game mo_wish_game
  have hN := lays_len w (fun _ => 0) 0
  have sp1 := sz_pos w
  have hs := lays_ok (N := sz w) w (ns := []) (ρ := fun _ => 0) (p := 0) hw hd (by omega) (by omega) (fun m hm => by simp at hm)
  have e := lay_t 30 (found := []) (kvs := []) (ρ := fun _ => 0) hw hd (fun m hm => by simp at hm) (by simp; omega) (by simp; omega)
  rw [List.nil_append, List.length_nil, show ((0 : Nat) : Int) = 0 from rfl] at e
  simp only [obs, pFew_p (xs := ([] : List Str)) (by simp), pFew_p (xs := ([] : List (Wish × List Int))) (by simp), pFew_p (xs := ([] : List (Int × Int × List Int))) (by simp), bind2_ss, pCons_eq, bound18_t 30 (ns := []) (wf_sh hw).1 hd (by simp), (wf_sh hw).2, qbo, e, pLen_eq, hN, G.len, pGt_eq]
  rw [retL_t, thenX_okL, pMul_r (by omega), bind2_ss, pGt_eq, obs]
  generalize hsg : lays w (fun _ => 0) 0 = sg at hs hN e
  generalize sz w = N at *
  by_cases c : 24 < (n : Int) * N
  · rw [if_pos (decide_eq_true c), if_pos c]; rfl
  · rw [if_neg (by simpa using c), if_neg c, pRng_p (by omega) (by omega), obs, Int.toNat_natCast]
    rw [forO_app (G := fun i => sg.map fun x => gRow g N i x) (B := 100000) (s := [])]
    · rw [obs, seqO_nx]
      have eg : ([] ++ (upF 0 n).flatMap fun i => sg.map fun x => gRow g N i x) = allRows g N sg := by
        unfold allRows
        rw [G.len]; rfl
      rw [eg, made_rows G hs hN hn.1 sp1 (by omega)]
      rfl
    · have h1 := rows_len (g := g) (N := N) (sg := sg)
      unfold allRows at h1
      rw [G.len] at h1
      have h2 : n * sg.length ≤ 100 * 100 := Nat.mul_le_mul (by omega) (by omega)
      simp only [List.length_nil]
      omega
    · intro s i hi hl
      have hi := mem_upF.mp hi
      have hi : 0 ≤ i ∧ i < (n : Int) := by omega
      have P := G.pl hi.1 hi.2
      have ea := G.at hi.1 hi.2
      rw [forO_app (R := List Pl) (G := fun x => [gRow g N i x]) (B := 100000)]
      · rw [flatMap_single]; rfl
      · rw [flatMap_single]; exact hl
      · intro s' x hx hl'
        rw [ea, bind2_ss, pCons_eq, obs, row_t (by omega) (hs x hx) P.few, obs, pApp_p (by simp at hl'; omega), obs]
end
end Cw
/- PK18: law k18 in plain Lean. -/
namespace Cw
open PySem PySem.Spec L2
open PyProof.Rows hiding St
theorem told18_ok {g : List Pl} {w : Wish} {a : List Pl} (e : m_wish_game g w = some (.ok a)) : m_law_told18 g w = some (some a, []) := by
  unfold m_law_told18 mo_law_told18
  simp only [obs, pFew_p (xs := ([] : List Bool)) (by simp), bind2_ss, pCons_eq, e]
  rfl
theorem told18_ex {g : List Pl} {w : Wish} {nm : Str} (e : m_wish_game g w = some (.ex nm)) (hn : nm ∈ (["Loose", "TooMany", "Stuck", "NoPlace", "Twice"] : List Str)) : m_law_told18 g w = some (none, marksOf1 nm) := by
  unfold m_law_told18 mo_law_told18
  simp only [obs, pFew_p (xs := ([] : List Bool)) (by simp), bind2_ss, pCons_eq, e, catchO]
  rw [if_pos hn]
  rw [pFew_p (by simp), obs, pFew_p (by simp), bind2_ss, pCat_p (by simp), obs, pApp_p (by simp)]
  rfl
theorem loose18 {g : List Pl} {w : Wish} (hw : Sh w) (hd : dp w ≤ 30) (hb : bdB [] w = false) : m_law_loose g w = some true := by
  unfold m_law_loose mo_law_loose
  simp only [obs, bind2_ss, pCons_eq, holds18_loose hw hd hb, catchO]
  rw [if_pos (by simp)]
  rfl
theorem sz_le : ∀ w : Wish, sz w + 1 ≤ ((2 ^ dp w : Nat) : Int)
  | .i _ _ => by show (1 : Int) + 1 ≤ ((2 ^ 1 : Nat) : Int); decide
  | .s _ _ => by show (1 : Int) + 1 ≤ ((2 ^ 1 : Nat) : Int); decide
  | .u _ a => by
    have := sz_le a
    have p := Nat.one_le_two_pow (n := dp a)
    show 1 + sz a + 1 ≤ ((2 ^ (dp a + 1) : Nat) : Int)
    rw [Nat.pow_succ]; omega
  | .b _ a c => by
    have h1 := sz_le a
    have h2 := sz_le c
    have p1 := Nat.pow_le_pow_right (show 0 < 2 by decide) (Nat.le_max_left (dp a) (dp c))
    have p2 := Nat.pow_le_pow_right (show 0 < 2 by decide) (Nat.le_max_right (dp a) (dp c))
    show 1 + (sz a + sz c) + 1 ≤ ((2 ^ (max (dp a) (dp c) + 1) : Nat) : Int)
    rw [Nat.pow_succ]; omega
  | .q _ _ a => by
    have := sz_le a
    have p := Nat.one_le_two_pow (n := dp a)
    show 1 + sz a + 1 ≤ ((2 ^ (dp a + 1) : Nat) : Int)
    rw [Nat.pow_succ]; omega
theorem sz_le4 {w : Wish} (h : dp w ≤ 4) : sz w ≤ 15 := by
  have a := sz_le w
  have b := Nat.pow_le_pow_right (show 0 < 2 by decide) h
  omega
structure WkOk (w : Wish) : Prop where
  wf : Wf [] w
  dp : dp w ≤ 26
  sz : sz w ≤ 100
theorem law_k18_true (s : List Int) (hs : s.length ≤ 63) : m_law_k18 s = some true := by
  apply some_of
  unfold m_law_k18 mo_law_k18
  have m0 := Int.emod_nonneg (cel s 0) (show (6 : Int) ≠ 0 by decide)
  have m1 := Int.emod_lt_of_pos (cel s 0) (show (0 : Int) < 6 by decide)
  have q0 := Int.emod_nonneg (cel s 1) (show (4 : Int) ≠ 0 by decide)
  have q1 := Int.emod_lt_of_pos (cel s 1) (show (0 : Int) < 4 by decide)
  have cell3 : m_law_cell_at s 3 = some (cel s 3) := cell_at_nat s 3
  simp only [obs, bind2_ss, pCons_eq, cell0, cell1, cell2, cell3, pAdd_eq, pPow_10_20, pMod_p (j := 4) (by decide), pMod_p (j := 6) (by decide), pMod_p (j := 100000000000000000000) (by decide), pMod_p (j := 2) (by decide), pMod_p (j := 3) (by decide), pDiv_p (j := 4) (by decide), pDiv_p (j := 12) (by decide), pNe_eq, pEq_eq, oAnd_ss]
  generalize hmany : 1 + cel s 0 % 6 = many
  generalize hspr : 1 + cel s 1 % 4 = spread
  generalize cel s 2 % 100000000000000000000 = low
  generalize cel s 3 = c3
  obtain ⟨g, eg, G⟩ := game_ex s (start := 4) (many := many) (spread := spread) (low := low) (by omega) (by omega) (by omega) (by omega) (by omega)
  have hl : (g.length : Int) = many := by rw [G.len]; omega
  have ecr : (((pRng spread).bind fun xs => (lcO (fun _ => some true) (fun k_v => some (low + k_v)) xs).bind pMany)) = some ((upF 0 spread.toNat).map fun k => low + k) := by
    rw [pRng_p (by omega) (by omega), obs, lcO_map (g := fun k : Int => low + k) (fun _ _ => rfl), obs, pMany_p (by rw [List.length_map, upF_len]; omega)]
  have hcl : ((upF 0 spread.toNat).map fun k => low + k).length = spread.toNat := by rw [List.length_map, upF_len]
  obtain ⟨w, a', b', ew, _, wf, hdp⟩ := wish_ex s (crowns := (upF 0 spread.toNat).map fun k => low + k) (fun z => by rw [z] at hcl; simp at hcl; omega) (by omega) 5 [] (3 + many) 6 3 (by omega) (by omega) (by omega) (by simp)
  rw [eg]
  simp only [obs, ecr, pFew_p (xs := [3 + many, 6]) (by simp), pFew_p (xs := ([] : List Str)) (by simp), bind2_ss, pCons_eq, pConsL, pConsA, qDrop, ew]
  refine ex_then1 WkOk ?_ ?_
  · by_cases c : (!decide (c3 % 4 = 1) && decide (c3 / 4 % 3 = 1)) = true
    · rw [if_pos c]
      have r0 := Int.emod_nonneg (c3 / 12) (show (2 : Int) ≠ 0 by decide)
      have r1 := Int.emod_lt_of_pos (c3 / 12) (show (0 : Int) < 2 by decide)
      have em : pMul (c3 / 12 % 2) many = some (c3 / 12 % 2 * many) := pMul_r (by omega)
      have hb : c3 / 12 % 2 * many ≤ many := by
        rcases (show c3 / 12 % 2 = 0 ∨ c3 / 12 % 2 = 1 by omega) with z | z <;> rw [z] <;> omega
      simp only [pMul_l (i := 24) (by decide), em, obs, bind2_ss, pAdd_eq]
      generalize hroom : (if 24 + c3 / 12 % 2 * many < 24 * many then 24 + c3 / 12 % 2 * many else 24 * many) = room
      have hr : room ≤ 24 + many := by rw [← hroom]; split <;> omega
      refine ex_whileI (fun w : Wish => Wf [] w ∧ (dp w : Int) = sz w ∧ sz w ≤ 25) (fun w => (26 - sz w).toNat) ⟨.inl rfl, rfl, by show (1 : Int) ≤ 25; omega⟩ (by show (26 - (1 : Int)).toNat < 30; decide) ?_ ?_
      · rintro w1 ⟨i1, i2, i3⟩
        have s1 := sz_pos w1
        have es := law_signs_t 30 i1 (by omega)
        rw [es]
        have hm : pMul many (sz w1 + 1) = some (many * (sz w1 + 1)) := pMul_l (by omega)
        simp only [obs, bind2_ss, pAdd_eq, hm, pLe_eq]
        refine ⟨_, rfl, fun t => ?_⟩
        have t := of_decide_eq_true t
        have hq : many * sz w1 + many ≤ 24 + many := by rw [Int.mul_add, Int.mul_one] at t; omega
        have hq2 : sz w1 ≤ 24 := by
          have := Int.mul_le_mul_of_nonneg_right (show 1 ≤ many by omega) (show 0 ≤ sz w1 by omega)
          omega
        have z0 := Int.emod_nonneg (sz w1) (show (2 : Int) ≠ 0 by decide)
        have z1 := Int.emod_lt_of_pos (sz w1) (show (0 : Int) < 2 by decide)
        obtain ⟨k, e7, _, hk⟩ := atI_ex (xs := ([("all" : Str), "some"])) (i := sz w1 % 2) z0 z1
        simp only [pFew_p (xs := ([("all" : Str), "some"])) (by simp), bind2_ss, pMod_p (j := 2) (by decide), e7, obs]
        refine ⟨_, rfl, ⟨⟨by simpa using hk, i1⟩, ?_, ?_⟩, ?_⟩
        · show ((dp w1 + 1 : Nat) : Int) = 1 + sz w1
          omega
        · show 1 + sz w1 ≤ 25
          omega
        · show (26 - (1 + sz w1)).toNat < (26 - sz w1).toNat
          omega
      · rintro w1 ⟨i1, i2, i3⟩ _
        exact ⟨w1, rfl, i1, by omega, by omega⟩
    · rw [if_neg c]
      exact ⟨w, rfl, wf, by omega, by have := sz_le4 (w := w) (by omega); omega⟩
  · intro w2 W
    by_cases c : decide (c3 % 4 = 1) = true
    · rw [if_pos c]
      have f0 := Int.emod_nonneg (c3 / 4) (show (3 : Int) ≠ 0 by decide)
      have f1 := Int.emod_lt_of_pos (c3 / 4) (show (0 : Int) < 3 by decide)
      generalize c3 / 4 % 3 = form at f0 f1
      have sh := (wf_sh W.wf).1
      have d2 := W.dp
      have fin : ∀ s6 : Wish, Sh s6 → dp s6 ≤ 30 → bdB [] s6 = false → ∃ r, (((oAnd ((bind2 ((m_law_told18 g s6).bind fun x => some x.snd) (some ((5 : Int), ())) pCons).bind fun x => m_law_refused x.fst x.snd.fst) (m_law_loose g s6)).bind fun a => some (Out.rt (S := Empty) a)).bind (seqO noE)).bind outR = some r ∧ r = true := fun s6 h1 h2 h3 => by
        rw [told18_ex (nm := "Loose") (game18_loose h1 h2 h3) (by simp), obs, bind2_ss, pCons_eq, obs, refused1_eq (by decide), loose18 h1 h2 h3]
        exact ⟨true, rfl, rfl⟩
      rcases (show form = 0 ∨ form = 1 ∨ form = 2 by omega) with rfl | rfl | rfl
      · rw [if_pos (by decide), obs, seqO_nx, if_neg (by decide), obs, seqO_nx, if_neg (by decide), obs, seqO_nx]
        refine fin _ ⟨.inr rfl, sh, .inl rfl, .inl rfl, rfl, rfl⟩ ?_ ?_
        · show max (dp w2) (1 + 1 + 1) + 1 ≤ 30
          omega
        · show (bdB [] w2 && false) = false
          rw [Bool.and_false]
      · rw [if_neg (by decide), obs, seqO_nx, if_pos (by decide), obs, seqO_nx, if_neg (by decide), obs, seqO_nx]
        refine fin _ ⟨.inr rfl, ⟨.inl rfl, sh⟩, .inr rfl, rfl⟩ ?_ ?_
        · show max (dp w2 + 1) (1 + 1) + 1 ≤ 30
          omega
        · show (bdB (([] : List Str) ++ [("q" : Str)]) w2 && false) = false
          rw [Bool.and_false]
      · rw [if_neg (by decide), obs, seqO_nx, if_neg (by decide), obs, seqO_nx, if_pos (by decide), obs, seqO_nx]
        refine fin _ ⟨.inl rfl, ⟨.inl rfl, rfl⟩, .inr rfl, sh⟩ ?_ ?_
        · show max (1 + 1) (dp w2 + 1) + 1 ≤ 30
          omega
        · rfl
    · rw [if_neg c]
      have d2 := W.dp
      have s2 := sz_pos w2
      have z2 := W.sz
      have hn : (many.toNat : Int) = many := by omega
      have e1 := game18_t G W.wf (by omega) W.sz (by omega)
      have e2 := rows_t G W.wf (by omega) W.sz (by omega)
      rw [hn] at e1
      rw [law_signs_t 30 W.wf (by omega), bind2_ss, pMul_l (by omega), bind2_ss, pGt_eq]
      by_cases q : 24 < many * sz w2
      · rw [if_pos q] at e1
        rw [told18_ex (nm := "TooMany") e1 (by simp), obs, obs, if_pos (decide_eq_true q), refused1_eq (by decide)]
        exact ⟨true, rfl, rfl⟩
      · rw [if_neg q] at e1
        rw [told18_ok e1, obs, obs, if_neg (by simpa using q), pFew_p (by simp), bind2_ss, pEqG_eq, e2]
        have hlen := rows_len (g := g) (N := sz w2) (sg := lays w2 (fun _ => 0) 0)
        have hN := lays_len w2 (fun _ => 0) 0
        have hlen2 : ((allRows g (sz w2) (lays w2 (fun _ => 0) 0)).length : Int) = many * sz w2 := by rw [hlen, Int.natCast_mul, hN, hl]
        generalize allRows g (sz w2) (lays w2 (fun _ => 0) 0) = rows at hlen2 e1 e2
        show ∃ r, (((oAnd (some (decide (([] : List Bool) = []))) ((bind2 (some rows) (bind2 (some rows) (some ()) pCons) pCons).bind fun x => m_law_same x.fst x.snd.fst)).bind fun a => some (Out.rt a)).bind outR) = some r ∧ r = true
        rw [bind2_ss, pCons_eq, bind2_ss, pCons_eq, obs, show m_law_same (rows, rows, ()).fst (rows, rows, ()).snd.fst = some true from same_t (xs := rows) (by omega)]
        exact ⟨true, rfl, rfl⟩
end Cw
namespace Cw
open PySem PySem.Spec L2
open PyProof.Rows hiding St
/- walks of k18, printed by gen.py -/
def topS (i : Nat) : Stmt := PySem.Challenge.pw_crownwalk_k18_wish_game.main.body.getD i (.Pass ⟨0, 0, 0, 0⟩)
abbrev s_checked : Stmt := topS 11
abbrev s_made : Stmt := topS 12
abbrev s_parts_of : Stmt := topS 14
abbrev s_bound18 : Stmt := topS 15
abbrev s_step_holds : Stmt := topS 16
abbrev s_closed : Stmt := topS 17
abbrev s_where : Stmt := topS 18
abbrev s_holds18 : Stmt := topS 19
abbrev s_binders : Stmt := topS 20
abbrev s_lay : Stmt := topS 21
abbrev s_crown_of : Stmt := topS 22
abbrev s_row_of18 : Stmt := topS 23
abbrev s_wish_game : Stmt := topS 24
abbrev s_law_cell_at : Stmt := topS 26
abbrev s_law_pick : Stmt := topS 27
abbrev s_law_whole : Stmt := topS 28
abbrev s_law_mix : Stmt := topS 29
abbrev s_law_place : Stmt := topS 30
abbrev s_law_game : Stmt := topS 31
abbrev s_law_same : Stmt := topS 32
abbrev s_law_refused : Stmt := topS 33
abbrev s_law_told18 : Stmt := topS 34
abbrev s_law_spot : Stmt := topS 35
abbrev s_law_wish : Stmt := topS 36
abbrev s_law_parts : Stmt := topS 37
abbrev s_law_signs : Stmt := topS 38
abbrev s_law_binders : Stmt := topS 39
abbrev s_law_lay : Stmt := topS 40
abbrev s_law_crown : Stmt := topS 41
abbrev s_law_rows_of : Stmt := topS 42
abbrev s_law_loose : Stmt := topS 43
abbrev s_law_k18 : Stmt := topS 44
abbrev sp_checked (K : PySem.W.Frag) (w : World) (mg : Str → Option Value) : Sp := SpX (A := (Int × Int × (List Int)) × Int × Unit) mg false (fun x => [Cd.at (c3 cI cI (cL cI)) x.1, Cd.at cI x.2.1]) (fun x => m_checked x.1 x.2.1) (fr cN)
theorem sc_checked : FnScope ["row", "many", "way"] ["row", "many"] (defScope s_checked) := ⟨rfl, rfl, rfl, by decide +kernel, rfl, by decide +kernel, by decide +kernel⟩
set_option maxHeartbeats 4000000 in
theorem ok_checked {P : Program} {w : World} {K : PySem.W.Frag} {mg : Str → Option Value} {base : Heap} {f : Addr} {fd : FuncData} (Fu : Fun K "checked" "checked" s_checked f fd) (z_len : mg "len" = none) (z_set : mg "set" = none) {C_Stuck : Addr} (ex_Stuck : ExK K mg "Stuck" C_Stuck) {C_NoPlace : Addr} (ex_NoPlace : ExK K mg "NoPlace" C_NoPlace) {C_Twice : Addr} (ex_Twice : ExK K mg "Twice" C_Twice) : FnOk P w K mg base (L2.CX P w) 1 f fd ["row", "many"] (sp_checked K w mg) := by
  refine fn_gXN (fun _ _ _ => rfl) (A := (Int × Int × (List Int)) × Int × Unit) Fu sc_checked (fun _ => rfl) ?_
  rintro X ⟨row, many, _⟩ E ⟨cdv, Ar, outer, s, H, rfl⟩ hr tk
  have hu := hu_of hr
  have hun := hr.units
  show JBX _ _ false _ [En.fz (Cd.at (c3 cI cI (cL cI)) row), En.fz (Cd.at cI many), En.no] _ _ (mo_checked row many)
  unfold mo_checked
  exact (jbx_ifr (jt_cmp op_eq r2_eq (je_bi call_len_seq c1_lenL rfl z_len (by decide +kernel) (je_fld f32 (je_var (i := 0) rfl (.inl rfl) rfl))) je_int (nomark _)) (jbx_raise ex_Stuck tk rfl rfl) (jbx_for (i := 2) (C := cI) (Γj := fun (s1 : Unit) => [En.fz (Cd.at (c3 cI cI (cL cI)) row), En.fz (Cd.at cI many), En.no]) (s0 := ()) (passes_of rfl) rfl sc_checked.nd rfl (.inl rfl) (ji_list (je_fld f32 (je_var (i := 0) rfl (.inl rfl) rfl))) (.keep (.keep (.keep .nil))) (fun s1 way => (jbx_ifr (jt_not (jt_chain op_le op_lt r2_le r2_lt je_int (je_var (i := 2) rfl (.inl rfl) rfl) (je_var (i := 1) rfl (.inl rfl) rfl))) (jbx_raise ex_NoPlace tk rfl rfl) (jbx_nil (s := ()) (.keep (.keep (.no .nil)))))) (fun s1 => (jbx_ifr (jt_cmp op_ne r2_ne (je_bi cr_lenSet c1_lenSet rfl z_len (by decide +kernel) (je_ty (cr_setI rfl) c1_set rfl z_set (by decide +kernel) (je_fld f32 (je_var (i := 0) rfl (.inl rfl) rfl)))) (je_bi call_len_seq c1_lenL rfl z_len (by decide +kernel) (je_fld f32 (je_var (i := 0) rfl (.inl rfl) rfl))) (nomark _)) (jbx_raise ex_Twice tk rfl rfl) (jbx_nil (.no (.no (.no .nil))))))))
abbrev sp_made (K : PySem.W.Frag) (w : World) (mg : Str → Option Value) : Sp := SpX (A := (List (Int × Int × (List Int))) × Unit) mg false (fun x => [Cd.at (cL (c3 cI cI (cL cI))) x.1]) (fun x => m_made x.1) (fr cGm)
theorem sc_made : FnScope ["rows", "row"] ["rows"] (defScope s_made) := ⟨rfl, rfl, rfl, by decide +kernel, rfl, by decide +kernel, by decide +kernel⟩
set_option maxHeartbeats 4000000 in
theorem ok_made {P : Program} {w : World} {K : PySem.W.Frag} {mg : Str → Option Value} {base : Heap} {f : Addr} {fd : FuncData} (Fu : Fun K "made" "made" s_made f fd) (c_checked : CalX P w K mg base 1 "checked" ["row", "many"] (sp_checked K w mg)) (z_len : mg "len" = none) (z_tuple : mg "tuple" = none) (z_sorted : mg "sorted" = none) (gl_MOST : mg "MOST" = some (.int 24 tM)) {C_TooMany : Addr} (ex_TooMany : ExK K mg "TooMany" C_TooMany) : FnOk P w K mg base (L2.CX P w) 2 f fd ["rows"] (sp_made K w mg) := by
  refine fn_gX (A := (List (Int × Int × (List Int))) × Unit) Fu sc_made (fun _ => rfl) ?_
  rintro X ⟨rows, _⟩ E ⟨cdv, Ar, outer, s, H, rfl⟩ hr tk
  have hu := hu_of hr
  have hun := hr.units
  show JBX _ _ false _ [En.fz (Cd.at (cL (c3 cI cI (cL cI))) rows), En.no] _ _ (mo_made rows)
  unfold mo_made
  exact (jbx_ifr (jt_not (jt_chain op_le op_le r2_le r2_le je_int (je_bi call_len_seq c1_lenL rfl z_len (by decide +kernel) (je_var (i := 0) rfl (.inl rfl) rfl)) (je_glob (C := cI) (a := (24 : Int)) (v := .int 24) rfl gl_MOST ⟨_, rfl⟩ (fun _ => rfl)))) (jbx_raise ex_TooMany tk rfl rfl) (jbx_for (i := 1) (C := (c3 cI cI (cL cI))) (Γj := fun (s1 : Unit) => [En.fz (Cd.at (cL (c3 cI cI (cL cI))) rows), En.no]) (s0 := ()) (passes_of rfl) rfl sc_made.nd rfl (.inl rfl) (ji_list (je_var (i := 0) rfl (.inl rfl) rfl)) (.keep (.keep .nil)) (fun s1 row => (jbx_exprX (jex_call c_checked tk hr rfl (ja_cons (je_var (i := 1) rfl (.inl rfl) rfl) (ja_cons (je_bi call_len_seq c1_lenL rfl z_len (by decide +kernel) (je_var (i := 0) rfl (.inl rfl) rfl)) ja_nil)) (by decide)) (fun _ => (jbx_nil (s := ()) (.keep (.no .nil)))))) (fun s1 => (jbx_lift (jb_ret (je_ty call_tuple_of c1_tupL rfl z_tuple (by decide +kernel) (je_fzL (je_lc (i := 1) (D := (c3 cI cI (cT cI))) rfl sc_made.nd (ji_list (je_var (i := 0) rfl (.inl rfl) rfl)) (blkOk_by (N := ["rows", "row"]) (own := [("row", 1)]) (sc := defScope s_made) (by decide +kernel)) (fun _ _ _ _ _ => pg_name (i := 1) sc_made.nd rfl (Or.inl rfl) ) (fun _ _ _ _ _ row => jts_nil) (fun _ _ _ _ _ row => (je_tup3 (je_fld f30 (je_var (i := 1) rfl (.inl rfl) rfl)) (je_fld f31 (je_var (i := 1) rfl (.inl rfl) rfl)) (je_ty call_tuple_of c1_tupL rfl z_tuple (by decide +kernel) (je_fzL (je_bi cr_sorted c1_sorted rfl z_sorted (by decide +kernel) (je_fld f32 (je_var (i := 1) rfl (.inl rfl) rfl)))))))))))))))
abbrev sp_parts_of (K : PySem.W.Frag) (w : World) : Sp := SpG (A := Wish × Unit) false (fun x => [Cd.at cW x.1]) (fun x => m_parts_of x.1) (fr (cL cW))
theorem sc_parts_of : FnScope ["wish"] ["wish"] (defScope s_parts_of) := ⟨rfl, rfl, rfl, by decide +kernel, rfl, by decide +kernel, by decide +kernel⟩
set_option maxHeartbeats 4000000 in
theorem ok_parts_of {P : Program} {w : World} {K : PySem.W.Frag} {mg : Str → Option Value} {base : Heap} {f : Addr} {fd : FuncData} (Fu : Fun K "parts_of" "parts_of" s_parts_of f fd) (z_list : mg "list" = none) : FnOk P w K mg base CX0 1 f fd ["wish"] (sp_parts_of K w) := by
  refine fn_g (A := Wish × Unit) Fu sc_parts_of (fun _ => rfl) ?_
  rintro X ⟨wish, _⟩ ⟨cdv, Ar, outer, s, H, E, rfl⟩ hr
  have hu := hu_of hr
  have hun := hr.units
  show JB _ false _ [En.fz (Cd.at cW wish)] _ _ (mo_parts_of wish)
  unfold mo_parts_of
  exact (jb_ifr (jt_cmp op_in_seq r2_inTS (je_fld fW0 (je_var (i := 0) rfl (.inl rfl) rfl)) (je_tupV (C := cS) (jl_cons je_str (jl_cons je_str (jl_cons je_str jl_nil)))) rfl) (jb_ret (je_fzL (je_lst (C := cW) jl_nil))) (jb_ifr (jt_cmp op_in_seq r2_inTS (je_fld fW0 (je_var (i := 0) rfl (.inl rfl) rfl)) (je_tupV (C := cS) (jl_cons je_str (jl_cons je_str jl_nil))) rfl) (jb_ret (je_fzL (je_lst (C := cW) (jl_cons (je_fldO fW2W (je_var (i := 0) rfl (.inl rfl) rfl)) jl_nil)))) (jb_ret (je_fzL (je_ty call_list_of c1_lstT rfl z_list (by decide +kernel) (je_slW (je_var (i := 0) rfl (.inl rfl) rfl)))))))
abbrev sp_bound18 (d : Nat) (K : PySem.W.Frag) (w : World) (mg : Str → Option Value) : Sp := SpX (A := Wish × (List Str) × Unit) mg false (fun x => [Cd.at cW x.1, Cd.at (cL cS) x.2.1]) (fun x => m_bound18 d x.1 x.2.1) (fr cN)
theorem sc_bound18 : FnScope ["wish", "names", "part"] ["wish", "names"] (defScope s_bound18) := ⟨rfl, rfl, rfl, by decide +kernel, rfl, by decide +kernel, by decide +kernel⟩
set_option maxHeartbeats 4000000 in
theorem ok_bound18 {P : Program} {w : World} {K : PySem.W.Frag} {mg : Str → Option Value} {base : Heap} {f : Addr} {fd : FuncData} {n d : Nat} (Fu : Fun K "bound" "bound" s_bound18 f fd) (hlev : 2 ≤ n) (c_parts_of : Cal P w K mg base 1 "parts_of" ["wish"] (sp_parts_of K w)) (c_bound18 : CalX P w K mg base n "bound" ["wish", "names"] (sp_bound18 d K w mg)) {C_Loose : Addr} (ex_Loose : ExK K mg "Loose" C_Loose) : FnOk P w K mg base (L2.CX P w) (n + 1) f fd ["wish", "names"] (sp_bound18 (d + 1) K w mg) := by
  refine fn_gXN (fun _ _ _ => rfl) (mo := fun x => mo_bound18 (m_bound18 d) x.1 x.2.1) (A := Wish × (List Str) × Unit) Fu sc_bound18 (fun _ => rfl) ?_
  rintro X ⟨wish, names, _⟩ E ⟨cdv, Ar, outer, s, H, rfl⟩ hr tk
  have hu := hu_of hr
  have hun := hr.units
  show JBX _ _ false _ [En.fz (Cd.at cW wish), En.fz (Cd.at (cL cS) names), En.no] _ _ (mo_bound18 (m_bound18 d) wish names)
  unfold mo_bound18
  exact (jbx_ifr (JW.jt (jw_and (jt_cmp op_eq r2_eqS (je_fld fW0 (je_var (i := 0) rfl (.inl rfl) rfl)) je_str (nomark _)) (jw_and1 (jt_cmp op_notIn_seq r2_niLS (je_fldO fW1S (je_var (i := 0) rfl (.inl rfl) rfl)) (je_var (i := 1) rfl (.inl rfl) rfl) rfl)))) (jbx_raise ex_Loose tk rfl rfl) (jbx_for (i := 2) (C := cW) (Γj := fun (s1 : Unit) => [En.fz (Cd.at cW wish), En.fz (Cd.at (cL cS) names), En.no]) (s0 := ()) (passes_of rfl) rfl sc_bound18.nd rfl (.inl rfl) (ji_list (je_callC c_parts_of hr rfl (ja_cons (je_var (i := 0) rfl (.inl rfl) rfl) ja_nil) ⟨by omega, by decide⟩)) (.keep (.keep (.keep .nil))) (fun s1 part => (jbx_if (Γj := fun (s2 : Unit) => [En.fz (Cd.at cW wish), En.fz (Cd.at (cL cS) names), En.fz (Cd.at cW part)]) (jt_cmp op_in_seq r2_inTS (je_fld fW0 (je_var (i := 0) rfl (.inl rfl) rfl)) (je_tupV (C := cS) (jl_cons je_str (jl_cons je_str jl_nil))) rfl) (jbx_exprX (jex_call c_bound18 tk hr rfl (ja_cons (je_var (i := 2) rfl (.inl rfl) rfl) (ja_cons (je_fzL (je_op op_cat r2_cat (je_var (i := 1) rfl (.inl rfl) rfl) (je_fzL (je_lst (C := cS) (jl_cons (je_fldO fW1S (je_var (i := 0) rfl (.inl rfl) rfl)) jl_nil))))) ja_nil)) ⟨by omega, by decide⟩) (fun _ => (jbx_nil (s := ()) (.keep (.keep (.keep .nil)))))) (jbx_exprX (jex_call c_bound18 tk hr rfl (ja_cons (je_var (i := 2) rfl (.inl rfl) rfl) (ja_cons (je_var (i := 1) rfl (.inl rfl) rfl) ja_nil)) ⟨by omega, by decide⟩) (fun _ => (jbx_nil (s := ()) (.keep (.keep (.keep .nil)))))) (fun s2 => (jbx_nil (s := ()) (.keep (.keep (.no .nil))))))) (fun s1 => (jbx_nil (.no (.no (.no .nil)))))))
abbrev sp_step_holds (K : PySem.W.Frag) (w : World) : Sp := SpG (A := Str × (List Bool) × (List Int) × Unit) false (fun x => [Cd.at cS x.1, Cd.at (cL cB) x.2.1, Cd.at (cT cI) x.2.2.1]) (fun x => m_step_holds x.1 x.2.1 x.2.2.1) (fr cB)
theorem sc_step_holds : FnScope ["kind", "marks", "ways", "way"] ["kind", "marks", "ways"] (defScope s_step_holds) := ⟨rfl, rfl, rfl, by decide +kernel, rfl, by decide +kernel, by decide +kernel⟩
set_option maxHeartbeats 4000000 in
theorem ok_step_holds {P : Program} {w : World} {K : PySem.W.Frag} {mg : Str → Option Value} {base : Heap} {f : Addr} {fd : FuncData} (Fu : Fun K "step_holds" "step_holds" s_step_holds f fd) (z_all : mg "all" = none) (z_any : mg "any" = none) : FnOk P w K mg base CX0 1 f fd ["kind", "marks", "ways"] (sp_step_holds K w) := by
  refine fn_g (A := Str × (List Bool) × (List Int) × Unit) Fu sc_step_holds (fun _ => rfl) ?_
  rintro X ⟨kind, marks, ways, _⟩ ⟨cdv, Ar, outer, s, H, E, rfl⟩ hr
  have hu := hu_of hr
  have hun := hr.units
  show JB _ false _ [En.fz (Cd.at cS kind), En.fz (Cd.at (cL cB) marks), En.fz (Cd.at (cT cI) ways), En.no] _ _ (mo_step_holds kind marks ways)
  unfold mo_step_holds
  exact (jb_ifr (jt_cmp op_eq r2_eqS (je_var (i := 0) rfl (.inl rfl) rfl) je_str (nomark _)) (jb_ret (je_bi (cr_all rfl) c1_all rfl z_all (by decide +kernel) (je_fzL (je_lc (i := 3) (D := cB) rfl sc_step_holds.nd (ji_tup (je_var (i := 2) rfl (.inl rfl) rfl)) (blkOk_by (N := ["kind", "marks", "ways", "way"]) (own := [("way", 3)]) (sc := defScope s_step_holds) (by decide +kernel)) (fun _ _ _ _ _ => pg_name (i := 3) sc_step_holds.nd rfl (Or.inl rfl) ) (fun _ _ _ _ _ way => jts_nil) (fun _ _ _ _ _ way => (je_ix ix_list r2_ixL (je_var (i := 1) rfl (.inr (.inl rfl)) rfl) (je_var (i := 3) rfl (.inl rfl) rfl) (fun _ _ => rfl))))))) (jb_ret (je_bi (cr_any rfl) c1_any rfl z_any (by decide +kernel) (je_fzL (je_lc (i := 3) (D := cB) rfl sc_step_holds.nd (ji_tup (je_var (i := 2) rfl (.inl rfl) rfl)) (blkOk_by (N := ["kind", "marks", "ways", "way"]) (own := [("way", 3)]) (sc := defScope s_step_holds) (by decide +kernel)) (fun _ _ _ _ _ => pg_name (i := 3) sc_step_holds.nd rfl (Or.inl rfl) ) (fun _ _ _ _ _ way => jts_nil) (fun _ _ _ _ _ way => (je_ix ix_list r2_ixL (je_var (i := 1) rfl (.inr (.inl rfl)) rfl) (je_var (i := 3) rfl (.inl rfl) rfl) (fun _ _ => rfl))))))))
abbrev sp_where (d : Nat) (K : PySem.W.Frag) (w : World) : Sp := SpG (A := (List Pl) × Wish × (List (Str × (List Bool))) × Unit) false (fun x => [Cd.at cGm x.1, Cd.at cW x.2.1, Cd.at (cDS (cL cB)) x.2.2.1]) (fun x => m_where d x.1 x.2.1 x.2.2.1) (fr (cL cB))
abbrev sp_closed (d : Nat) (K : PySem.W.Frag) (w : World) : Sp := SpG (A := (List Pl) × Wish × (List (Str × (List Bool))) × Unit) false (fun x => [Cd.at cGm x.1, Cd.at cW x.2.1, Cd.at (cDS (cL cB)) x.2.2.1]) (fun x => m_closed (m_where d) x.1 x.2.1 x.2.2.1) (fr (cL cB))
theorem sc_closed : FnScope ["game", "wish", "meant", "marks", "more", "inner", "found", "place"] ["game", "wish", "meant"] (defScope s_closed) := ⟨rfl, rfl, rfl, by decide +kernel, rfl, by decide +kernel, by decide +kernel⟩
set_option maxHeartbeats 4000000 in
theorem ok_closed {P : Program} {w : World} {K : PySem.W.Frag} {mg : Str → Option Value} {base : Heap} {f : Addr} {fd : FuncData} {n d : Nat} (Fu : Fun K "closed" "closed" s_closed f fd) (hlev : 2 ≤ n) (c_where : Cal P w K mg base n "where" ["game", "wish", "meant"] (sp_where d K w)) (z_dict : mg "dict" = none) : FnOk P w K mg base CX0 (n + 1) f fd ["game", "wish", "meant"] (sp_closed d K w) := by
  refine fn_g (mo := fun x => mo_closed (m_where d) x.1 x.2.1 x.2.2.1) (A := (List Pl) × Wish × (List (Str × (List Bool))) × Unit) Fu sc_closed (fun _ => rfl) ?_
  rintro X ⟨game, wish, meant, _⟩ ⟨cdv, Ar, outer, s, H, E, rfl⟩ hr
  have hu := hu_of hr
  have hun := hr.units
  show JB _ false _ [En.fz (Cd.at cGm game), En.fz (Cd.at cW wish), En.fz (Cd.at (cDS (cL cB)) meant), En.no, En.no, En.no, En.no, En.no] _ _ (mo_closed (m_where d) game wish meant)
  unfold mo_closed
  exact (jb_setLc (i := 7) (j := 3) (D := cB) rfl sc_closed.nd rfl rfl (sw_true rfl rfl rfl (by decide +kernel)) (ji_tup (je_var (i := 0) rfl (.inl rfl) rfl)) (blkOk_by (N := ["game", "wish", "meant", "marks", "more", "inner", "found", "place"]) (own := [("place", 7)]) (sc := defScope s_closed) (by decide +kernel)) (fun _ _ _ _ _ => pg_name (i := 7) sc_closed.nd rfl (Or.inl rfl) ) (fun _ _ _ _ _ place => jts_nil) (fun _ _ _ _ _ place => (je_cmp op_eq r2_eqS (je_fld fW0 (je_var (i := 1) rfl (.inr (.inl rfl)) rfl)) je_str (nomark _))) (fun marks => (jb_frz (i := 3) (φ := Cd.at (cL cB) marks) rfl qL (jb_asg (i := 4) (C := cB) sc_closed.nd rfl (.inl rfl) je_bl (fun more => (jb_while (Γj := fun (s1 : ((List Bool) × Bool)) => [En.fz (Cd.at cGm game), En.fz (Cd.at cW wish), En.fz (Cd.at (cDS (cL cB)) meant), En.fz (Cd.at (cL cB) s1.1), En.fz (Cd.at cB s1.2), En.no, En.no, En.no]) (s0 := (marks, more)) PassesOwn.never (.keep (.keep (.keep (.keep (.keep (.keep (.keep (.keep .nil)))))))) (fun s1 => (jt_val (je_var (i := 4) rfl (.inl rfl) rfl))) (fun s1 => (jb_asgN (i := 5) (M := mDS (cL cB)) sc_closed.nd rfl (.inl rfl) (je_ty cr_dictD c1_dictDS rfl z_dict (by decide +kernel) (je_var (i := 2) rfl (.inl rfl) rfl)) (fun inner => (jb_putS hu (i := 5) rfl (.inl rfl) rfl (je_var (i := 3) rfl (.inl rfl) rfl) (je_fldO fW1S (je_var (i := 1) rfl (.inr (.inl rfl)) rfl)) (fun inner => (jb_frz (i := 5) (φ := Cd.at (cDS (cL cB)) inner) rfl qDS (jb_asg (i := 6) (C := (cL cB)) sc_closed.nd rfl (.inl rfl) (je_callC c_where hr rfl (ja_cons (je_var (i := 0) rfl (.inl rfl) rfl) (ja_cons (je_fldO fW2W (je_var (i := 1) rfl (.inr (.inl rfl)) rfl)) (ja_cons (je_var (i := 5) rfl (.inl rfl) rfl) ja_nil))) ⟨by omega, by decide⟩) (fun found => (jb_asg (i := 4) (C := cB) sc_closed.nd rfl (.inl rfl) (je_cmp (op_neD hun) (r2_neD (dL dB)) (je_var (i := 6) rfl (.inl rfl) rfl) (je_var (i := 3) rfl (.inl rfl) rfl) (nomark _)) (fun more => (jb_asg (i := 3) (C := (cL cB)) sc_closed.nd rfl (.inl rfl) (je_var (i := 6) rfl (.inl rfl) rfl) (fun marks => (jb_nil (s := (marks, more)) (.keep (.keep (.keep (.keep (.keep (.no (.no (.keep .nil))))))))))))))))))))) (fun s1 => (jb_ret (je_var (i := 3) rfl (.inl rfl) rfl)))))))))
theorem sc_where : FnScope ["game", "wish", "meant", "kind", "one", "other", "at", "place"] ["game", "wish", "meant"] (defScope s_where) := ⟨rfl, rfl, rfl, by decide +kernel, rfl, by decide +kernel, by decide +kernel⟩
set_option maxHeartbeats 4000000 in
theorem ok_where {P : Program} {w : World} {K : PySem.W.Frag} {mg : Str → Option Value} {base : Heap} {f : Addr} {fd : FuncData} {n d : Nat} (Fu : Fun K "where" "where" s_where f fd) (hlev : 2 ≤ n) (c_closed : Cal P w K mg base (n + 1) "closed" ["game", "wish", "meant"] (sp_closed d K w)) (c_where : Cal P w K mg base n "where" ["game", "wish", "meant"] (sp_where d K w)) (c_step_holds : Cal P w K mg base 1 "step_holds" ["kind", "marks", "ways"] (sp_step_holds K w)) (z_range : mg "range" = none) (z_len : mg "len" = none) : FnOk P w K mg base CX0 (n + 2) f fd ["game", "wish", "meant"] (sp_where (d + 1) K w) := by
  refine fn_g (mo := fun x => mo_where (m_where d) x.1 x.2.1 x.2.2.1) (A := (List Pl) × Wish × (List (Str × (List Bool))) × Unit) Fu sc_where (fun _ => rfl) ?_
  rintro X ⟨game, wish, meant, _⟩ ⟨cdv, Ar, outer, s, H, E, rfl⟩ hr
  have hu := hu_of hr
  have hun := hr.units
  show JB _ false _ [En.fz (Cd.at cGm game), En.fz (Cd.at cW wish), En.fz (Cd.at (cDS (cL cB)) meant), En.no, En.no, En.no, En.no, En.no] _ _ (mo_where (m_where d) game wish meant)
  unfold mo_where
  exact (jb_asg (i := 3) (C := cS) sc_where.nd rfl (.inr rfl) (je_fld fW0 (je_var (i := 1) rfl (.inr (.inl rfl)) rfl)) (fun kind => (jb_ifr (jt_cmp op_eq r2_eqS (je_var (i := 3) rfl (.inr (.inl rfl)) rfl) je_str (nomark _)) (jb_ret (je_fzL (je_lc (i := 7) (D := cB) rfl sc_where.nd (ji_tup (je_var (i := 0) rfl (.inl rfl) rfl)) (blkOk_by (N := ["game", "wish", "meant", "kind", "one", "other", "at", "place"]) (own := [("place", 7)]) (sc := defScope s_where) (by decide +kernel)) (fun _ _ _ _ _ => pg_name (i := 7) sc_where.nd rfl (Or.inl rfl) ) (fun _ _ _ _ _ place => jts_nil) (fun _ _ _ _ _ place => (je_cmp op_eq r2_eq (je_fld f31 (je_var (i := 7) rfl (.inl rfl) rfl)) (je_fldO fW1I (je_var (i := 1) rfl (.inr (.inl rfl)) rfl)) (nomark _)))))) (jb_ifr (jt_cmp op_eq r2_eqS (je_var (i := 3) rfl (.inr (.inl rfl)) rfl) je_str (nomark _)) (jb_ret (je_fzL (je_lc (i := 7) (D := cB) rfl sc_where.nd (ji_tup (je_var (i := 0) rfl (.inl rfl) rfl)) (blkOk_by (N := ["game", "wish", "meant", "kind", "one", "other", "at", "place"]) (own := [("place", 7)]) (sc := defScope s_where) (by decide +kernel)) (fun _ _ _ _ _ => pg_name (i := 7) sc_where.nd rfl (Or.inl rfl) ) (fun _ _ _ _ _ place => jts_nil) (fun _ _ _ _ _ place => (je_cmp op_ne r2_ne (je_fld f31 (je_var (i := 7) rfl (.inl rfl) rfl)) (je_fldO fW1I (je_var (i := 1) rfl (.inr (.inl rfl)) rfl)) (nomark _)))))) (jb_ifr (jt_cmp op_eq r2_eqS (je_var (i := 3) rfl (.inr (.inl rfl)) rfl) je_str (nomark _)) (jb_ret (je_dgetS hu (je_var (i := 2) rfl (.inl rfl) rfl) (je_fldO fW1S (je_var (i := 1) rfl (.inr (.inl rfl)) rfl)))) (jb_ifr (jt_cmp op_in_seq r2_inTS (je_var (i := 3) rfl (.inr (.inl rfl)) rfl) (je_tupV (C := cS) (jl_cons je_str (jl_cons je_str jl_nil))) rfl) (jb_ret (je_callC c_closed hr rfl (ja_cons (je_var (i := 0) rfl (.inl rfl) rfl) (ja_cons (je_var (i := 1) rfl (.inr (.inl rfl)) rfl) (ja_cons (je_var (i := 2) rfl (.inl rfl) rfl) ja_nil))) ⟨by omega, by decide⟩)) (jb_asg (i := 4) (C := (cL cB)) sc_where.nd rfl (.inr rfl) (je_callC c_where hr rfl (ja_cons (je_var (i := 0) rfl (.inl rfl) rfl) (ja_cons (je_fldO fW1W (je_var (i := 1) rfl (.inr (.inl rfl)) rfl)) (ja_cons (je_var (i := 2) rfl (.inl rfl) rfl) ja_nil))) ⟨by omega, by decide⟩) (fun one => (jb_ifr (jt_cmp op_in_seq r2_inTS (je_var (i := 3) rfl (.inr (.inl rfl)) rfl) (je_tupV (C := cS) (jl_cons je_str (jl_cons je_str jl_nil))) rfl) (jb_ret (je_fzL (je_lc (i := 7) (D := cB) rfl sc_where.nd (ji_tup (je_var (i := 0) rfl (.inl rfl) rfl)) (blkOk_by (N := ["game", "wish", "meant", "kind", "one", "other", "at", "place"]) (own := [("place", 7)]) (sc := defScope s_where) (by decide +kernel)) (fun _ _ _ _ _ => pg_name (i := 7) sc_where.nd rfl (Or.inl rfl) ) (fun _ _ _ _ _ place => jts_nil) (fun _ _ _ _ _ place => (je_callC c_step_holds hr rfl (ja_cons (je_var (i := 3) rfl (.inr (.inl rfl)) rfl) (ja_cons (je_var (i := 4) rfl (.inr (.inl rfl)) rfl) (ja_cons (je_fld f32 (je_var (i := 7) rfl (.inl rfl) rfl)) ja_nil))) ⟨by omega, by decide⟩))))) (jb_asg (i := 5) (C := (cL cB)) sc_where.nd rfl (.inr rfl) (je_callC c_where hr rfl (ja_cons (je_var (i := 0) rfl (.inl rfl) rfl) (ja_cons (je_fldO fW2W (je_var (i := 1) rfl (.inr (.inl rfl)) rfl)) (ja_cons (je_var (i := 2) rfl (.inl rfl) rfl) ja_nil))) ⟨by omega, by decide⟩) (fun other => (jb_ifr (jt_cmp op_eq r2_eqS (je_var (i := 3) rfl (.inr (.inl rfl)) rfl) je_str (nomark _)) (jb_ret (je_fzL (je_lc (i := 6) (D := cB) rfl sc_where.nd (ji_rng rfl z_range (je_bi call_len_seq c1_lenT rfl z_len (by decide +kernel) (je_var (i := 0) rfl (.inl rfl) rfl))) (blkOk_by (N := ["game", "wish", "meant", "kind", "one", "other", "at", "place"]) (own := [("at", 6)]) (sc := defScope s_where) (by decide +kernel)) (fun _ _ _ _ _ => pg_name (i := 6) sc_where.nd rfl (Or.inl rfl) ) (fun _ _ _ _ _ at_v => jts_nil) (fun _ _ _ _ _ at_v => (je_and (je_ix ix_list r2_ixL (je_var (i := 4) rfl (.inr (.inl rfl)) rfl) (je_var (i := 6) rfl (.inl rfl) rfl) (fun _ _ => rfl)) (je_one (je_ix ix_list r2_ixL (je_var (i := 5) rfl (.inr (.inl rfl)) rfl) (je_var (i := 6) rfl (.inl rfl) rfl) (fun _ _ => rfl)))))))) (jb_ret (je_fzL (je_lc (i := 6) (D := cB) rfl sc_where.nd (ji_rng rfl z_range (je_bi call_len_seq c1_lenT rfl z_len (by decide +kernel) (je_var (i := 0) rfl (.inl rfl) rfl))) (blkOk_by (N := ["game", "wish", "meant", "kind", "one", "other", "at", "place"]) (own := [("at", 6)]) (sc := defScope s_where) (by decide +kernel)) (fun _ _ _ _ _ => pg_name (i := 6) sc_where.nd rfl (Or.inl rfl) ) (fun _ _ _ _ _ at_v => jts_nil) (fun _ _ _ _ _ at_v => (je_or (je_ix ix_list r2_ixL (je_var (i := 4) rfl (.inr (.inl rfl)) rfl) (je_var (i := 6) rfl (.inl rfl) rfl) (fun _ _ => rfl)) (je_one (je_ix ix_list r2_ixL (je_var (i := 5) rfl (.inr (.inl rfl)) rfl) (je_var (i := 6) rfl (.inl rfl) rfl) (fun _ _ => rfl))))))))))))))))))))
abbrev sp_holds18 (K : PySem.W.Frag) (w : World) (mg : Str → Option Value) : Sp := SpX (A := (List Pl) × Wish × Unit) mg false (fun x => [Cd.at cGm x.1, Cd.at cW x.2.1]) (fun x => m_holds18 x.1 x.2.1) (fr (cL cB))
theorem sc_holds18 : FnScope ["game", "wish"] ["game", "wish"] (defScope s_holds18) := ⟨rfl, rfl, rfl, by decide +kernel, rfl, by decide +kernel, by decide +kernel⟩
set_option maxHeartbeats 4000000 in
theorem ok_holds18 {P : Program} {w : World} {K : PySem.W.Frag} {mg : Str → Option Value} {base : Heap} {f : Addr} {fd : FuncData} (Fu : Fun K "holds" "holds" s_holds18 f fd) (c_bound18 : CalX P w K mg base 32 "bound" ["wish", "names"] (sp_bound18 30 K w mg)) (c_where : Cal P w K mg base 62 "where" ["game", "wish", "meant"] (sp_where 30 K w)) (z_list : mg "list" = none) : FnOk P w K mg base (L2.CX P w) 63 f fd ["game", "wish"] (sp_holds18 K w mg) := by
  refine fn_gX (A := (List Pl) × Wish × Unit) Fu sc_holds18 (fun _ => rfl) ?_
  rintro X ⟨game, wish, _⟩ E ⟨cdv, Ar, outer, s, H, rfl⟩ hr tk
  have hu := hu_of hr
  have hun := hr.units
  show JBX _ _ false _ [En.fz (Cd.at cGm game), En.fz (Cd.at cW wish)] _ _ (mo_holds18 game wish)
  unfold mo_holds18
  exact (jbx_exprX (jex_call c_bound18 tk hr rfl (ja_cons (je_var (i := 1) rfl (.inl rfl) rfl) (ja_cons (je_fzL (je_lst (C := cS) jl_nil)) ja_nil)) (by decide)) (fun _ => (jbx_lift (jb_ret (je_fzL (je_ty call_list_of c1_lstL rfl z_list (by decide +kernel) (je_callC c_where hr rfl (ja_cons (je_var (i := 0) rfl (.inl rfl) rfl) (ja_cons (je_var (i := 1) rfl (.inl rfl) rfl) (ja_cons (je_fzDS je_dnewS) ja_nil))) (by decide))))))))
abbrev sp_binders (d : Nat) (K : PySem.W.Frag) (w : World) : Sp := SpG (A := Wish × Unit) false (fun x => [Cd.at cW x.1]) (fun x => m_binders d x.1) (fr cI)
theorem sc_binders : FnScope ["wish", "part"] ["wish"] (defScope s_binders) := ⟨rfl, rfl, rfl, by decide +kernel, rfl, by decide +kernel, by decide +kernel⟩
set_option maxHeartbeats 4000000 in
theorem ok_binders {P : Program} {w : World} {K : PySem.W.Frag} {mg : Str → Option Value} {base : Heap} {f : Addr} {fd : FuncData} {n d : Nat} (Fu : Fun K "binders" "binders" s_binders f fd) (hlev : 2 ≤ n) (c_parts_of : Cal P w K mg base 1 "parts_of" ["wish"] (sp_parts_of K w)) (c_binders : Cal P w K mg base n "binders" ["wish"] (sp_binders d K w)) (z_sum : mg "sum" = none) (z_int : mg "int" = none) : FnOk P w K mg base CX0 (n + 1) f fd ["wish"] (sp_binders (d + 1) K w) := by
  refine fn_g (mo := fun x => mo_binders (m_binders d) x.1) (A := Wish × Unit) Fu sc_binders (fun _ => rfl) ?_
  rintro X ⟨wish, _⟩ ⟨cdv, Ar, outer, s, H, E, rfl⟩ hr
  have hu := hu_of hr
  have hun := hr.units
  show JB _ false _ [En.fz (Cd.at cW wish), En.no] _ _ (mo_binders (m_binders d) wish)
  unfold mo_binders
  exact (jb_ret (je_bi (cr_sum rfl) c1_sum rfl z_sum (by decide +kernel) (je_fzL (je_lc (i := 1) (D := cI) rfl sc_binders.nd (ji_list (je_callC c_parts_of hr rfl (ja_cons (je_var (i := 0) rfl (.inl rfl) rfl) ja_nil) ⟨by omega, by decide⟩)) (blkOk_by (N := ["wish", "part"]) (own := [("part", 1)]) (sc := defScope s_binders) (by decide +kernel)) (fun _ _ _ _ _ => pg_name (i := 1) sc_binders.nd rfl (Or.inl rfl) ) (fun _ _ _ _ _ part => jts_nil) (fun _ _ _ _ _ part => (je_op op_add r2_add (je_callC c_binders hr rfl (ja_cons (je_var (i := 1) rfl (.inl rfl) rfl) ja_nil) ⟨by omega, by decide⟩) (je_ty call_int1 c1_intB rfl z_int (by decide +kernel) (je_cmp op_in_seq r2_inTS (je_fld fW0 (je_var (i := 1) rfl (.inl rfl) rfl)) (je_tupV (C := cS) (jl_cons je_str (jl_cons je_str jl_nil))) rfl))))))))
abbrev sp_lay (d : Nat) (K : PySem.W.Frag) (w : World) : Sp := SpO (A := Wish × (List (Str × Int)) × Unit × Unit) (T := (List (Wish × (List Int)))) false (fun s => oM (mL (c2 cW (cL cI)) s)) (fun l x => [Cd.at cW x.1, Cd.at (cDS cI) x.2.1, (cAd l).at x.2.2.1]) (fun x s => m_lay d x.1 x.2.1 s) cI
theorem sc_lay : FnScope ["wish", "names", "found", "at", "inner", "numbers", "part"] ["wish", "names", "found"] (defScope s_lay) := ⟨rfl, rfl, rfl, by decide +kernel, rfl, by decide +kernel, by decide +kernel⟩
set_option maxHeartbeats 4000000 in
theorem ok_lay {P : Program} {w : World} {K : PySem.W.Frag} {mg : Str → Option Value} {base : Heap} {f : Addr} {fd : FuncData} {n d : Nat} (Fu : Fun K "lay" "lay" s_lay f fd) (hlev : 2 ≤ n) (c_parts_of : Cal P w K mg base 1 "parts_of" ["wish"] (sp_parts_of K w)) (c_lay : Cal P w K mg base n "lay" ["wish", "names", "found"] (sp_lay d K w)) (z_len : mg "len" = none) (z_dict : mg "dict" = none) : FnOk P w K mg base CX0 (n + 1) f fd ["wish", "names", "found"] (sp_lay (d + 1) K w) := by
  refine fn_o (A := Wish × (List (Str × Int)) × Unit × Unit) (T := (List (Wish × (List Int)))) (i := 2) (mo := fun x s => mo_lay (m_lay d) x.1 x.2.1 s) (fun _ _ => rfl) Fu sc_lay (fun _ _ => rfl) (fun _ _ => rfl) ?_
  rintro X l ⟨wish, names, _, _⟩ found ⟨cdv, Ar, outer, s, H, E, rfl⟩ hr
  have hu := hu_of hr
  have hun := hr.units
  show JB _ false _ [En.fz (Cd.at cW wish), En.fz (Cd.at (cDS cI) names), En.ow (atA l (oM (mL (c2 cW (cL cI)) found))), En.no, En.no, En.no, En.no] (fun t => [En.no, En.no, En.ow (atA l (oM (mL (c2 cW (cL cI)) t))), En.no, En.no, En.no, En.no]) (rkO l (fun s => oM (mL (c2 cW (cL cI)) s)) cI) (mo_lay (m_lay d) wish names found)
  unfold mo_lay
  exact (jb_asg (i := 3) (C := cI) sc_lay.nd rfl (.inl rfl) (je_peekO 2 rfl (qAt qLo) (fr_indep cI_flat) (je_bi call_len_seq c1_lenL rfl z_len (by decide +kernel) (je_var (i := 2) rfl (.inr (.inl rfl)) rfl))) (fun at_v => (jb_appA (i := 2) rfl (.inr (.inl rfl)) rfl (je_tup2 (je_var (i := 0) rfl (.inl rfl) rfl) (je_fzL (je_lst (C := cI) (jl_cons (je_var (i := 3) rfl (.inl rfl) rfl) jl_nil)))) (fun s1 => (jb_if (Γj := fun (s3 : (List (Wish × (List Int)))) => [En.fz (Cd.at cW wish), En.fz (Cd.at (cDS cI) names), En.ow (atA l (oM (mL (c2 cW (cL cI)) s3))), En.fz (Cd.at cI at_v), En.no, En.no, En.no]) (jt_cmp op_eq r2_eqS (je_fld fW0 (je_var (i := 0) rfl (.inl rfl) rfl)) je_str (nomark _)) (jb_setIA (i := 2) rfl (.inr (.inl rfl)) rfl (je_tup2 (je_var (i := 0) rfl (.inl rfl) rfl) (je_fzL (je_lst (C := cI) (jl_cons (je_dgetS hu (je_var (i := 1) rfl (.inl rfl) rfl) (je_fldO fW1S (je_var (i := 0) rfl (.inl rfl) rfl))) jl_nil)))) (je_var (i := 3) rfl (.inl rfl) rfl) (fun s4 => (jb_nil (s := s4) (.keep (.keep (.keep (.keep (.keep (.keep (.keep .nil)))))))))) (jb_nil (s := s1) (.keep (.keep (.keep (.keep (.keep (.keep (.keep .nil)))))))) (fun s3 => (jb_asg (i := 4) (C := (cDS cI)) sc_lay.nd rfl (.inr rfl) (je_var (i := 1) rfl (.inl rfl) rfl) (fun inner => (jb_if (Γj := fun (s5 : (List (Str × Int))) => [En.fz (Cd.at cW wish), En.fz (Cd.at (cDS cI) names), En.ow (atA l (oM (mL (c2 cW (cL cI)) s3))), En.fz (Cd.at cI at_v), En.fz (Cd.at (cDS cI) s5), En.no, En.no]) (jt_cmp op_in_seq r2_inTS (je_fld fW0 (je_var (i := 0) rfl (.inl rfl) rfl)) (je_tupV (C := cS) (jl_cons je_str (jl_cons je_str jl_nil))) rfl) (jb_asgN (i := 4) (M := mDS cI) sc_lay.nd rfl (.inr rfl) (je_ty cr_dictD c1_dictDS rfl z_dict (by decide +kernel) (je_var (i := 1) rfl (.inl rfl) rfl)) (fun inner => (jb_putS hu (i := 4) rfl (.inr (.inl rfl)) rfl (je_var (i := 3) rfl (.inl rfl) rfl) (je_fldO fW1S (je_var (i := 0) rfl (.inl rfl) rfl)) (fun inner => (jb_frz (i := 4) (φ := Cd.at (cDS cI) inner) rfl qDS (jb_nil (s := inner) (.keep (.keep (.keep (.keep (.keep (.keep (.keep .nil))))))))))))) (jb_nil (s := inner) (.keep (.keep (.keep (.keep (.keep (.keep (.keep .nil)))))))) (fun s5 => (jb_setLcO (fi := 2) (χ := fun s => oM (mL (c2 cW (cL cI)) s)) (s := s3) (i := 6) (j := 5) (D := cI) rfl sc_lay.nd rfl rfl (sw_true rfl rfl rfl (by decide +kernel)) rfl (by decide) (ji_list (je_callC c_parts_of hr rfl (ja_cons (je_var (i := 0) rfl (.inl rfl) rfl) ja_nil) ⟨by omega, by decide⟩)) (blkOk_by (N := ["wish", "names", "found", "at", "inner", "numbers", "part"]) (own := [("part", 6)]) (sc := defScope s_lay) (by decide +kernel)) (fun _ _ _ _ _ => pg_name (i := 6) sc_lay.nd rfl (Or.inl rfl) ) (fun _ _ _ _ _ part s6 => (jo_call (χ := fun s => oM (mL (c2 cW (cL cI)) s)) (s := s6) c_lay hr rfl (ja_cons (je_var (i := 6) rfl (.inl rfl) rfl) (ja_cons (je_var (i := 4) rfl (.inr (.inl rfl)) rfl) (ja_cons (je_own (i := 2) rfl (.inr (.inl rfl)) rfl) ja_nil))) ⟨by omega, by decide⟩)) (fun numbers s7 => (jb_frz (i := 5) (φ := Cd.at (cL cI) numbers) rfl qL (jb_if (Γj := fun (s9 : (List (Wish × (List Int)))) => [En.fz (Cd.at cW wish), En.fz (Cd.at (cDS cI) names), En.ow (atA l (oM (mL (c2 cW (cL cI)) s9))), En.fz (Cd.at cI at_v), En.fz (Cd.at (cDS cI) s5), En.fz (Cd.at (cL cI) numbers), En.no]) (jt_cmp op_gt r2_gt (je_bi call_len_seq c1_lenL rfl z_len (by decide +kernel) (je_var (i := 5) rfl (.inl rfl) rfl)) je_int (nomark _)) (jb_setIA (i := 2) rfl (.inr (.inl rfl)) rfl (je_tup2 (je_var (i := 0) rfl (.inl rfl) rfl) (je_var (i := 5) rfl (.inl rfl) rfl)) (je_var (i := 3) rfl (.inl rfl) rfl) (fun s10 => (jb_nil (s := s10) (.keep (.keep (.keep (.keep (.keep (.keep (.keep .nil)))))))))) (jb_nil (s := s7) (.keep (.keep (.keep (.keep (.keep (.keep (.keep .nil)))))))) (fun s9 => (jb_retA (i := 2) (χ := fun s => oM (mL (c2 cW (cL cI)) s)) (s := s9) rfl (je_var (i := 3) rfl (.inl rfl) rfl)))))))))))))))))
abbrev sp_crown_of (K : PySem.W.Frag) (w : World) : Sp := SpG (A := Wish × Int × Unit) false (fun x => [Cd.at cW x.1, Cd.at cI x.2.1]) (fun x => m_crown_of x.1 x.2.1) (fr cI)
theorem sc_crown_of : FnScope ["wish", "crown"] ["wish", "crown"] (defScope s_crown_of) := ⟨rfl, rfl, rfl, by decide +kernel, rfl, by decide +kernel, by decide +kernel⟩
set_option maxHeartbeats 4000000 in
theorem ok_crown_of {P : Program} {w : World} {K : PySem.W.Frag} {mg : Str → Option Value} {base : Heap} {f : Addr} {fd : FuncData} (Fu : Fun K "crown_of" "crown_of" s_crown_of f fd) (c_binders : Cal P w K mg base 32 "binders" ["wish"] (sp_binders 30 K w)) (z_int : mg "int" = none) : FnOk P w K mg base CX0 33 f fd ["wish", "crown"] (sp_crown_of K w) := by
  refine fn_g (A := Wish × Int × Unit) Fu sc_crown_of (fun _ => rfl) ?_
  rintro X ⟨wish, crown, _⟩ ⟨cdv, Ar, outer, s, H, E, rfl⟩ hr
  have hu := hu_of hr
  have hun := hr.units
  show JB _ false _ [En.fz (Cd.at cW wish), En.fz (Cd.at cI crown)] _ _ (mo_crown_of wish crown)
  unfold mo_crown_of
  exact (jb_ifr (jt_cmp op_eq r2_eqS (je_fld fW0 (je_var (i := 0) rfl (.inl rfl) rfl)) je_str (nomark _)) (jb_ret (je_op op_add r2_add (je_op op_mul r2_mul je_int (je_callC c_binders hr rfl (ja_cons (je_var (i := 0) rfl (.inl rfl) rfl) ja_nil) (by decide))) je_int)) (jb_ifr (jt_cmp op_eq r2_eqS (je_fld fW0 (je_var (i := 0) rfl (.inl rfl) rfl)) je_str (nomark _)) (jb_ret (je_op op_mul r2_mul je_int (je_callC c_binders hr rfl (ja_cons (je_var (i := 0) rfl (.inl rfl) rfl) ja_nil) (by decide)))) (jb_ifr (jt_cmp op_eq r2_eqS (je_fld fW0 (je_var (i := 0) rfl (.inl rfl) rfl)) je_str (nomark _)) (jb_ret (je_ty call_int1 c1_intB rfl z_int (by decide +kernel) (je_cmp op_ne r2_ne (je_fldO fW1I (je_var (i := 0) rfl (.inl rfl) rfl)) (je_var (i := 1) rfl (.inl rfl) rfl) (nomark _)))) (jb_ifr (jt_cmp op_eq r2_eqS (je_fld fW0 (je_var (i := 0) rfl (.inl rfl) rfl)) je_str (nomark _)) (jb_ret (je_ty call_int1 c1_intB rfl z_int (by decide +kernel) (je_cmp op_eq r2_eq (je_fldO fW1I (je_var (i := 0) rfl (.inl rfl) rfl)) (je_var (i := 1) rfl (.inl rfl) rfl) (nomark _)))) (jb_ret je_int)))))
abbrev sp_row_of18 (K : PySem.W.Frag) (w : World) : Sp := SpG (A := Pl × Int × (Wish × (List Int)) × Int × Unit) false (fun x => [Cd.at cPl x.1, Cd.at cI x.2.1, Cd.at (c2 cW (cL cI)) x.2.2.1, Cd.at cI x.2.2.2.1]) (fun x => m_row_of18 x.1 x.2.1 x.2.2.1 x.2.2.2.1) (fr (c3 cI cI (cL cI)))
theorem sc_row_of18 : FnScope ["place", "at", "sign", "many", "kind", "starts", "ways", "start", "number"] ["place", "at", "sign", "many"] (defScope s_row_of18) := ⟨rfl, rfl, rfl, by decide +kernel, rfl, by decide +kernel, by decide +kernel⟩
set_option maxHeartbeats 4000000 in
theorem ok_row_of18 {P : Program} {w : World} {K : PySem.W.Frag} {mg : Str → Option Value} {base : Heap} {f : Addr} {fd : FuncData} (Fu : Fun K "row_of" "row_of" s_row_of18 f fd) (c_crown_of : Cal P w K mg base 33 "crown_of" ["wish", "crown"] (sp_crown_of K w)) (z_list : mg "list" = none) (z_int : mg "int" = none) : FnOk P w K mg base CX0 34 f fd ["place", "at", "sign", "many"] (sp_row_of18 K w) := by
  refine fn_g (A := Pl × Int × (Wish × (List Int)) × Int × Unit) Fu sc_row_of18 (fun _ => rfl) ?_
  rintro X ⟨place, at_v, sign, many, _⟩ ⟨cdv, Ar, outer, s, H, E, rfl⟩ hr
  have hu := hu_of hr
  have hun := hr.units
  show JB _ false _ [En.fz (Cd.at cPl place), En.fz (Cd.at cI at_v), En.fz (Cd.at (c2 cW (cL cI)) sign), En.fz (Cd.at cI many), En.no, En.no, En.no, En.no, En.no] _ _ (mo_row_of18 place at_v sign many)
  unfold mo_row_of18
  exact (jb_asg (i := 4) (C := cS) sc_row_of18.nd rfl (.inl rfl) (je_fld fW0 (je_fld f20 (je_var (i := 2) rfl (.inl rfl) rfl))) (fun kind => (jb_asg (i := 5) (C := (cL cI)) sc_row_of18.nd rfl (.inl rfl) (je_fzL (je_lst (C := cI) (jl_cons (je_var (i := 1) rfl (.inl rfl) rfl) jl_nil))) (fun starts => (jb_if (Γj := fun (s1 : (List Int)) => [En.fz (Cd.at cPl place), En.fz (Cd.at cI at_v), En.fz (Cd.at (c2 cW (cL cI)) sign), En.fz (Cd.at cI many), En.fz (Cd.at cS kind), En.fz (Cd.at (cL cI) s1), En.no, En.no, En.no]) (jt_cmp op_in_seq r2_inTS (je_var (i := 4) rfl (.inl rfl) rfl) (je_tupV (C := cS) (jl_cons je_str (jl_cons je_str jl_nil))) rfl) (jb_asg (i := 5) (C := (cL cI)) sc_row_of18.nd rfl (.inl rfl) (je_fzL (je_ty call_list_of c1_lstT rfl z_list (by decide +kernel) (je_fld f32 (je_var (i := 0) rfl (.inl rfl) rfl)))) (fun starts => (jb_nil (s := starts) (.keep (.keep (.keep (.keep (.keep (.keep (.keep (.keep (.keep .nil)))))))))))) (jb_nil (s := starts) (.keep (.keep (.keep (.keep (.keep (.keep (.keep (.keep (.keep .nil)))))))))) (fun s1 => (jb_asgN (i := 6) (M := mL cI) sc_row_of18.nd rfl (.inl rfl) (je_lst (C := cI) jl_nil) (fun ways => (jb_for (i := 7) (C := cI) (Γj := fun (s2 : (List Int)) => [En.fz (Cd.at cPl place), En.fz (Cd.at cI at_v), En.fz (Cd.at (c2 cW (cL cI)) sign), En.fz (Cd.at cI many), En.fz (Cd.at cS kind), En.fz (Cd.at (cL cI) s1), En.mu (mL cI s2), En.no, En.no]) (s0 := ways) PassesOwn.never rfl sc_row_of18.nd rfl (.inl rfl) (ji_list (je_var (i := 5) rfl (.inl rfl) rfl)) (.keep (.keep (.keep (.keep (.keep (.keep (.keep (.keep (.keep .nil))))))))) (fun s2 start => (jb_for (i := 8) (C := cI) (Γj := fun (s3 : (List Int)) => [En.fz (Cd.at cPl place), En.fz (Cd.at cI at_v), En.fz (Cd.at (c2 cW (cL cI)) sign), En.fz (Cd.at cI many), En.fz (Cd.at cS kind), En.fz (Cd.at (cL cI) s1), En.mu (mL cI s3), En.fz (Cd.at cI start), En.no]) (s0 := s2) PassesOwn.never rfl sc_row_of18.nd rfl (.inl rfl) (ji_list (je_fld f21 (je_var (i := 2) rfl (.inl rfl) rfl))) (.keep (.keep (.keep (.keep (.keep (.keep (.keep (.keep (.keep .nil))))))))) (fun s3 number => (jb_app (i := 6) rfl (.inl rfl) rfl (je_op op_add r2_add (je_op op_mul r2_mul (je_var (i := 7) rfl (.inl rfl) rfl) (je_var (i := 3) rfl (.inl rfl) rfl)) (je_var (i := 8) rfl (.inl rfl) rfl)) (fun ways => (jb_nil (s := ways) (.keep (.keep (.keep (.keep (.keep (.keep (.keep (.keep (.no .nil))))))))))))) (fun s3 => (jb_nil (s := s3) (.keep (.keep (.keep (.keep (.keep (.keep (.keep (.no (.keep .nil))))))))))))) (fun s2 => (jb_frz (i := 6) (φ := Cd.at (cL cI) s2) rfl qL (jb_ret (je_tup3 (je_ty call_int1 c1_intB rfl z_int (by decide +kernel) (je_cmp op_in_seq r2_inTS (je_var (i := 4) rfl (.inl rfl) rfl) (je_tupV (C := cS) (jl_cons je_str (jl_cons je_str jl_nil))) rfl)) (je_callC c_crown_of hr rfl (ja_cons (je_fld f20 (je_var (i := 2) rfl (.inl rfl) rfl)) (ja_cons (je_fld f31 (je_var (i := 0) rfl (.inl rfl) rfl)) ja_nil)) (by decide)) (je_var (i := 6) rfl (.inl rfl) rfl))))))))))))))
abbrev sp_wish_game (K : PySem.W.Frag) (w : World) (mg : Str → Option Value) : Sp := SpX (A := (List Pl) × Wish × Unit) mg false (fun x => [Cd.at cGm x.1, Cd.at cW x.2.1]) (fun x => m_wish_game x.1 x.2.1) (fr cGm)
theorem sc_wish_game : FnScope ["game", "wish", "found", "rows", "at", "sign"] ["game", "wish"] (defScope s_wish_game) := ⟨rfl, rfl, rfl, by decide +kernel, rfl, by decide +kernel, by decide +kernel⟩
set_option maxHeartbeats 4000000 in
theorem ok_wish_game {P : Program} {w : World} {K : PySem.W.Frag} {mg : Str → Option Value} {base : Heap} {f : Addr} {fd : FuncData} (Fu : Fun K "wish_game" "wish_game" s_wish_game f fd) (c_bound18 : CalX P w K mg base 32 "bound" ["wish", "names"] (sp_bound18 30 K w mg)) (c_lay : Cal P w K mg base 32 "lay" ["wish", "names", "found"] (sp_lay 30 K w)) (c_row_of18 : Cal P w K mg base 34 "row_of" ["place", "at", "sign", "many"] (sp_row_of18 K w)) (c_made : CalX P w K mg base 2 "made" ["rows"] (sp_made K w mg)) (z_len : mg "len" = none) (z_range : mg "range" = none) (gl_MOST : mg "MOST" = some (.int 24 tM)) {C_TooMany : Addr} (ex_TooMany : ExK K mg "TooMany" C_TooMany) : FnOk P w K mg base (L2.CX P w) 35 f fd ["game", "wish"] (sp_wish_game K w mg) := by
  refine fn_gX (A := (List Pl) × Wish × Unit) Fu sc_wish_game (fun _ => rfl) ?_
  rintro X ⟨game, wish, _⟩ E ⟨cdv, Ar, outer, s, H, rfl⟩ hr tk
  have hu := hu_of hr
  have hun := hr.units
  show JBX _ _ false _ [En.fz (Cd.at cGm game), En.fz (Cd.at cW wish), En.no, En.no, En.no, En.no] _ _ (mo_wish_game game wish)
  unfold mo_wish_game
  exact (jbx_exprX (jex_call c_bound18 tk hr rfl (ja_cons (je_var (i := 1) rfl (.inl rfl) rfl) (ja_cons (je_fzL (je_lst (C := cS) jl_nil)) ja_nil)) (by decide)) (fun _ => (jbx_asgN (i := 2) (M := mL (c2 cW (cL cI))) sc_wish_game.nd rfl (.inl rfl) (je_lst (C := (c2 cW (cL cI))) jl_nil) (fun found => (jbx_openA (i := 2) (χ1 := oM (mL (c2 cW (cL cI)) found)) qoM rfl (NoOw.ne (.fz (.fz (.mu (.no (.no (.no .nil))))))) (fun l => (jbx_exprO (i := 2) (χ := fun s => oM (mL (c2 cW (cL cI)) s)) (s := found) rfl (jo_call (χ := fun s => oM (mL (c2 cW (cL cI)) s)) (s := found) c_lay hr rfl (ja_cons (je_var (i := 1) rfl (.inl rfl) rfl) (ja_cons (je_fzDS je_dnewS) (ja_cons (je_own (i := 2) rfl (.inl rfl) rfl) ja_nil))) (by decide)) (fun _ s1 => (jbx_frzO (i := 2) (φ := Cd.at (cL (c2 cW (cL cI))) s1) rfl (qAt qLo) (jbx_ifr (jt_cmp op_gt r2_gt (je_op op_mul r2_mul (je_bi call_len_seq c1_lenT rfl z_len (by decide +kernel) (je_var (i := 0) rfl (.inl rfl) rfl)) (je_bi call_len_seq c1_lenL rfl z_len (by decide +kernel) (je_var (i := 2) rfl (.inl rfl) rfl))) (je_glob (C := cI) (a := (24 : Int)) (v := .int 24) rfl gl_MOST ⟨_, rfl⟩ (fun _ => rfl)) (nomark _)) (jbx_raise ex_TooMany tk rfl rfl) (jbx_asgN (i := 3) (M := mL (c3 cI cI (cL cI))) sc_wish_game.nd rfl (.inl rfl) (je_lst (C := (c3 cI cI (cL cI))) jl_nil) (fun rows => (jbx_for (i := 4) (C := cI) (Γj := fun (s2 : (List (Int × Int × (List Int)))) => [En.fz (Cd.at cGm game), En.fz (Cd.at cW wish), En.fz (Cd.at (cL (c2 cW (cL cI))) s1), En.mu (mL (c3 cI cI (cL cI)) s2), En.no, En.no]) (s0 := rows) (passes_of rfl) rfl sc_wish_game.nd rfl (.inl rfl) (ji_rng rfl z_range (je_bi call_len_seq c1_lenT rfl z_len (by decide +kernel) (je_var (i := 0) rfl (.inl rfl) rfl))) (.keep (.keep (.keep (.keep (.keep (.keep .nil)))))) (fun s2 at_v => (jbx_lift (jb_for (i := 5) (C := (c2 cW (cL cI))) (Γj := fun (s3 : (List (Int × Int × (List Int)))) => [En.fz (Cd.at cGm game), En.fz (Cd.at cW wish), En.fz (Cd.at (cL (c2 cW (cL cI))) s1), En.mu (mL (c3 cI cI (cL cI)) s3), En.fz (Cd.at cI at_v), En.no]) (s0 := s2) PassesOwn.never rfl sc_wish_game.nd rfl (.inl rfl) (ji_list (je_var (i := 2) rfl (.inl rfl) rfl)) (.keep (.keep (.keep (.keep (.keep (.keep .nil)))))) (fun s3 sign => (jb_app (i := 3) rfl (.inl rfl) rfl (je_callC c_row_of18 hr rfl (ja_cons (je_ix ix_tup r2_ixT (je_var (i := 0) rfl (.inl rfl) rfl) (je_var (i := 4) rfl (.inl rfl) rfl) (fun _ _ => rfl)) (ja_cons (je_var (i := 4) rfl (.inl rfl) rfl) (ja_cons (je_var (i := 5) rfl (.inl rfl) rfl) (ja_cons (je_bi call_len_seq c1_lenL rfl z_len (by decide +kernel) (je_var (i := 2) rfl (.inl rfl) rfl)) ja_nil)))) (by decide)) (fun rows => (jb_nil (s := rows) (.keep (.keep (.keep (.keep (.keep (.no .nil)))))))))) (fun s3 => (jb_nil (s := s3) (.keep (.keep (.keep (.keep (.no (.keep .nil))))))))))) (fun s2 => (jbx_frz (i := 3) (φ := Cd.at (cL (c3 cI cI (cL cI))) s2) rfl qL (jbx_retX (jex_call c_made tk hr rfl (ja_cons (je_var (i := 3) rfl (.inl rfl) rfl) ja_nil) (by decide))))))))))))))))))
abbrev sp_law_cell_at (K : PySem.W.Frag) (w : World) : Sp := SpG (A := (List Int) × Int × Unit) false (fun x => [Cd.at (cScr K) x.1, Cd.at cI x.2.1]) (fun x => m_law_cell_at x.1 x.2.1) (fr cI)
theorem sc_law_cell_at : FnScope ["script", "k"] ["script", "k"] (defScope s_law_cell_at) := ⟨rfl, rfl, rfl, by decide +kernel, rfl, by decide +kernel, by decide +kernel⟩
set_option maxHeartbeats 4000000 in
theorem ok_law_cell_at {P : Program} {w : World} {K : PySem.W.Frag} {mg : Str → Option Value} {base : Heap} {f : Addr} {fd : FuncData} (Fu : Fun K "_law_cell_at" "_law_cell_at" s_law_cell_at f fd) (z_len : mg "len" = none) : FnOk P w K mg base CX0 1 f fd ["script", "k"] (sp_law_cell_at K w) := by
  refine fn_g (A := (List Int) × Int × Unit) Fu sc_law_cell_at (fun _ => rfl) ?_
  rintro X ⟨script, k_v, _⟩ ⟨cdv, Ar, outer, s, H, E, rfl⟩ hr
  have hu := hu_of hr
  have hun := hr.units
  show JB _ false _ [En.fz (Cd.at (cScr K) script), En.fz (Cd.at cI k_v)] _ _ (mo_law_cell_at script k_v)
  unfold mo_law_cell_at
  exact (jb_ifr (jt_cmp op_lt r2_lt (je_var (i := 1) rfl (.inl rfl) rfl) (je_bi call_len_seq c1_lenScr rfl z_len (by decide +kernel) (je_var (i := 0) rfl (.inl rfl) rfl)) (nomark _)) (jb_ret (je_ix ix_list r2_ixScr (je_var (i := 0) rfl (.inl rfl) rfl) (je_var (i := 1) rfl (.inl rfl) rfl) (fun _ _ => rfl))) (jb_ret je_int))
abbrev sp_law_pick (K : PySem.W.Frag) (w : World) : Sp := SpG (A := (List Int) × Int × Unit) false (fun x => [Cd.at (cScr K) x.1, Cd.at cI x.2.1]) (fun x => m_law_pick x.1 x.2.1) (fr cI)
theorem sc_law_pick : FnScope ["script", "k"] ["script", "k"] (defScope s_law_pick) := ⟨rfl, rfl, rfl, by decide +kernel, rfl, by decide +kernel, by decide +kernel⟩
set_option maxHeartbeats 4000000 in
theorem ok_law_pick {P : Program} {w : World} {K : PySem.W.Frag} {mg : Str → Option Value} {base : Heap} {f : Addr} {fd : FuncData} (Fu : Fun K "_law_pick" "_law_pick" s_law_pick f fd) (c_law_cell_at : Cal P w K mg base 1 "_law_cell_at" ["script", "k"] (sp_law_cell_at K w)) (z_len : mg "len" = none) : FnOk P w K mg base CX0 2 f fd ["script", "k"] (sp_law_pick K w) := by
  refine fn_g (A := (List Int) × Int × Unit) Fu sc_law_pick (fun _ => rfl) ?_
  rintro X ⟨script, k_v, _⟩ ⟨cdv, Ar, outer, s, H, E, rfl⟩ hr
  have hu := hu_of hr
  have hun := hr.units
  show JB _ false _ [En.fz (Cd.at (cScr K) script), En.fz (Cd.at cI k_v)] _ _ (mo_law_pick script k_v)
  unfold mo_law_pick
  exact (jb_ifr (jt_cmp op_lt r2_lt (je_var (i := 1) rfl (.inl rfl) rfl) (je_bi call_len_seq c1_lenScr rfl z_len (by decide +kernel) (je_var (i := 0) rfl (.inl rfl) rfl)) (nomark _)) (jb_ret (je_ix ix_list r2_ixScr (je_var (i := 0) rfl (.inl rfl) rfl) (je_var (i := 1) rfl (.inl rfl) rfl) (fun _ _ => rfl))) (jb_ret (je_op op_fdiv r2_div (je_op op_mod r2_mod (je_op op_mul r2_mul (je_op op_add r2_add (je_op op_add r2_add (je_callC c_law_cell_at hr rfl (ja_cons (je_var (i := 0) rfl (.inl rfl) rfl) (ja_cons je_int ja_nil)) (by decide)) (je_op op_mul r2_mul je_int (je_var (i := 1) rfl (.inl rfl) rfl))) je_int) je_int) je_int) je_int)))
abbrev sp_law_whole (K : PySem.W.Frag) (w : World) : Sp := SpG (A := Int × Unit) false (fun x => [Cd.at cI x.1]) (fun x => m_law_whole x.1) (fr cB)
theorem sc_law_whole : FnScope ["x"] ["x"] (defScope s_law_whole) := ⟨rfl, rfl, rfl, by decide +kernel, rfl, by decide +kernel, by decide +kernel⟩
set_option maxHeartbeats 4000000 in
theorem ok_law_whole {P : Program} {w : World} {K : PySem.W.Frag} {mg : Str → Option Value} {base : Heap} {f : Addr} {fd : FuncData} (Fu : Fun K "_law_whole" "_law_whole" s_law_whole f fd) (z_isinstance : mg "isinstance" = none) (z_int : mg "int" = none) (z_bool : mg "bool" = none) : FnOk P w K mg base CX0 1 f fd ["x"] (sp_law_whole K w) := by
  refine fn_g (A := Int × Unit) Fu sc_law_whole (fun _ => rfl) ?_
  rintro X ⟨x_v, _⟩ ⟨cdv, Ar, outer, s, H, E, rfl⟩ hr
  have hu := hu_of hr
  have hun := hr.units
  show JB _ false _ [En.fz (Cd.at cI x_v)] _ _ (mo_law_whole x_v)
  unfold mo_law_whole
  exact (jb_ret (je_and (je_isi (cls := "int") (f := (fun _ : Int => true)) (ty := (fun _ => "int")) rfl z_isinstance (by decide +kernel) rfl z_int (by decide +kernel) (je_var (i := 0) rfl (.inl rfl) rfl) (ty_I _) (fun _ => by decide +kernel)) (je_one (je_not (je_isi (cls := "bool") (f := (fun _ : Int => false)) (ty := (fun _ => "int")) rfl z_isinstance (by decide +kernel) rfl z_bool (by decide +kernel) (je_var (i := 0) rfl (.inl rfl) rfl) (ty_I _) (fun _ => by decide +kernel))))))
abbrev sp_law_mix (K : PySem.W.Frag) (w : World) : Sp := SpG (A := Int × Int × Unit) false (fun x => [Cd.at cI x.1, Cd.at cI x.2.1]) (fun x => m_law_mix x.1 x.2.1) (fr cI)
theorem sc_law_mix : FnScope ["cell", "k"] ["cell", "k"] (defScope s_law_mix) := ⟨rfl, rfl, rfl, by decide +kernel, rfl, by decide +kernel, by decide +kernel⟩
set_option maxHeartbeats 4000000 in
theorem ok_law_mix {P : Program} {w : World} {K : PySem.W.Frag} {mg : Str → Option Value} {base : Heap} {f : Addr} {fd : FuncData} (Fu : Fun K "_law_mix" "_law_mix" s_law_mix f fd)  : FnOk P w K mg base CX0 1 f fd ["cell", "k"] (sp_law_mix K w) := by
  refine fn_g (A := Int × Int × Unit) Fu sc_law_mix (fun _ => rfl) ?_
  rintro X ⟨cell, k_v, _⟩ ⟨cdv, Ar, outer, s, H, E, rfl⟩ hr
  have hu := hu_of hr
  have hun := hr.units
  show JB _ false _ [En.fz (Cd.at cI cell), En.fz (Cd.at cI k_v)] _ _ (mo_law_mix cell k_v)
  unfold mo_law_mix
  exact (jb_ret (je_op op_mod r2_mod (je_op op_add r2_add (je_op op_mul r2_mul (je_var (i := 0) rfl (.inl rfl) rfl) je_int) (je_op op_mul r2_mul (je_var (i := 1) rfl (.inl rfl) rfl) je_int)) je_int))
abbrev sp_law_place (K : PySem.W.Frag) (w : World) : Sp := SpG (A := Int × Int × Int × Int × Unit) false (fun x => [Cd.at cI x.1, Cd.at cI x.2.1, Cd.at cI x.2.2.1, Cd.at cI x.2.2.2.1]) (fun x => m_law_place x.1 x.2.1 x.2.2.1 x.2.2.2.1) (fr cPl)
theorem sc_law_place : FnScope ["number", "many", "spread", "low", "left", "ways", "k"] ["number", "many", "spread", "low"] (defScope s_law_place) := ⟨rfl, rfl, rfl, by decide +kernel, rfl, by decide +kernel, by decide +kernel⟩
set_option maxHeartbeats 4000000 in
theorem ok_law_place {P : Program} {w : World} {K : PySem.W.Frag} {mg : Str → Option Value} {base : Heap} {f : Addr} {fd : FuncData} (Fu : Fun K "_law_place" "_law_place" s_law_place f fd) (z_range : mg "range" = none) (z_sorted : mg "sorted" = none) (z_set : mg "set" = none) (z_tuple : mg "tuple" = none) : FnOk P w K mg base CX0 1 f fd ["number", "many", "spread", "low"] (sp_law_place K w) := by
  refine fn_g (A := Int × Int × Int × Int × Unit) Fu sc_law_place (fun _ => rfl) ?_
  rintro X ⟨number, many, spread, low, _⟩ ⟨cdv, Ar, outer, s, H, E, rfl⟩ hr
  have hu := hu_of hr
  have hun := hr.units
  show JB _ false _ [En.fz (Cd.at cI number), En.fz (Cd.at cI many), En.fz (Cd.at cI spread), En.fz (Cd.at cI low), En.no, En.no, En.no] _ _ (mo_law_place number many spread low)
  unfold mo_law_place
  exact (jb_asg (i := 4) (C := cI) sc_law_place.nd rfl (.inl rfl) (je_op op_fdiv r2_div (je_var (i := 0) rfl (.inl rfl) rfl) (je_op op_mul r2_mul je_int (je_var (i := 2) rfl (.inl rfl) rfl))) (fun left => (jb_asgN (i := 5) (M := mL cI) sc_law_place.nd rfl (.inl rfl) (je_lst (C := cI) (jl_cons (je_op op_mod r2_mod (je_var (i := 4) rfl (.inl rfl) rfl) (je_var (i := 1) rfl (.inl rfl) rfl)) jl_nil)) (fun ways => (jb_for (i := 6) (C := cI) (Γj := fun (s1 : (Int × (List Int))) => [En.fz (Cd.at cI number), En.fz (Cd.at cI many), En.fz (Cd.at cI spread), En.fz (Cd.at cI low), En.fz (Cd.at cI s1.1), En.mu (mL cI s1.2), En.no]) (s0 := (left, ways)) PassesOwn.never rfl sc_law_place.nd rfl (.inl rfl) (ji_rng rfl z_range (je_op op_mod r2_mod (je_op op_fdiv r2_div (je_var (i := 0) rfl (.inl rfl) rfl) (je_op op_mul r2_mul je_int (je_var (i := 2) rfl (.inl rfl) rfl))) je_int)) (.keep (.keep (.keep (.keep (.keep (.keep (.keep .nil))))))) (fun s1 k_v => (jb_asg (i := 4) (C := cI) sc_law_place.nd rfl (.inl rfl) (je_op op_fdiv r2_div (je_var (i := 4) rfl (.inl rfl) rfl) (je_var (i := 1) rfl (.inl rfl) rfl)) (fun left => (jb_app (i := 5) rfl (.inl rfl) rfl (je_op op_mod r2_mod (je_var (i := 4) rfl (.inl rfl) rfl) (je_var (i := 1) rfl (.inl rfl) rfl)) (fun ways => (jb_nil (s := (left, ways)) (.keep (.keep (.keep (.keep (.keep (.keep (.no .nil))))))))))))) (fun s1 => (jb_frz (i := 5) (φ := Cd.at (cL cI) s1.2) rfl qL (jb_asg (i := 5) (C := (cL cI)) sc_law_place.nd rfl (.inl rfl) (je_fzL (je_bi (cr_sortedSet rfl) c1_sortedS rfl z_sorted (by decide +kernel) (je_ty (cr_setI rfl) c1_set rfl z_set (by decide +kernel) (je_var (i := 5) rfl (.inl rfl) rfl)))) (fun ways => (jb_ret (je_tup3 (je_op op_mod r2_mod (je_var (i := 0) rfl (.inl rfl) rfl) je_int) (je_op op_add r2_add (je_var (i := 3) rfl (.inl rfl) rfl) (je_op op_mod r2_mod (je_op op_fdiv r2_div (je_var (i := 0) rfl (.inl rfl) rfl) je_int) (je_var (i := 2) rfl (.inl rfl) rfl))) (je_ty call_tuple_of c1_tupL rfl z_tuple (by decide +kernel) (je_var (i := 5) rfl (.inl rfl) rfl)))))))))))))
abbrev sp_law_game (K : PySem.W.Frag) (w : World) : Sp := SpG (A := (List Int) × Int × Int × Int × Int × Unit) false (fun x => [Cd.at (cScr K) x.1, Cd.at cI x.2.1, Cd.at cI x.2.2.1, Cd.at cI x.2.2.2.1, Cd.at cI x.2.2.2.2.1]) (fun x => m_law_game x.1 x.2.1 x.2.2.1 x.2.2.2.1 x.2.2.2.2.1) (fr cGm)
theorem sc_law_game : FnScope ["script", "start", "many", "spread", "low", "rows", "k"] ["script", "start", "many", "spread", "low"] (defScope s_law_game) := ⟨rfl, rfl, rfl, by decide +kernel, rfl, by decide +kernel, by decide +kernel⟩
set_option maxHeartbeats 4000000 in
theorem ok_law_game {P : Program} {w : World} {K : PySem.W.Frag} {mg : Str → Option Value} {base : Heap} {f : Addr} {fd : FuncData} (Fu : Fun K "_law_game" "_law_game" s_law_game f fd) (c_law_place : Cal P w K mg base 1 "_law_place" ["number", "many", "spread", "low"] (sp_law_place K w)) (c_law_mix : Cal P w K mg base 1 "_law_mix" ["cell", "k"] (sp_law_mix K w)) (c_law_pick : Cal P w K mg base 2 "_law_pick" ["script", "k"] (sp_law_pick K w)) (z_range : mg "range" = none) (z_tuple : mg "tuple" = none) : FnOk P w K mg base CX0 3 f fd ["script", "start", "many", "spread", "low"] (sp_law_game K w) := by
  refine fn_g (A := (List Int) × Int × Int × Int × Int × Unit) Fu sc_law_game (fun _ => rfl) ?_
  rintro X ⟨script, start, many, spread, low, _⟩ ⟨cdv, Ar, outer, s, H, E, rfl⟩ hr
  have hu := hu_of hr
  have hun := hr.units
  show JB _ false _ [En.fz (Cd.at (cScr K) script), En.fz (Cd.at cI start), En.fz (Cd.at cI many), En.fz (Cd.at cI spread), En.fz (Cd.at cI low), En.no, En.no] _ _ (mo_law_game script start many spread low)
  unfold mo_law_game
  exact (jb_asgN (i := 5) (M := mL cPl) sc_law_game.nd rfl (.inl rfl) (je_lst (C := cPl) jl_nil) (fun rows => (jb_for (i := 6) (C := cI) (Γj := fun (s1 : (List Pl)) => [En.fz (Cd.at (cScr K) script), En.fz (Cd.at cI start), En.fz (Cd.at cI many), En.fz (Cd.at cI spread), En.fz (Cd.at cI low), En.mu (mL cPl s1), En.no]) (s0 := rows) PassesOwn.never rfl sc_law_game.nd rfl (.inl rfl) (ji_rng rfl z_range (je_var (i := 2) rfl (.inl rfl) rfl)) (.keep (.keep (.keep (.keep (.keep (.keep (.keep .nil))))))) (fun s1 k_v => (jb_app (i := 5) rfl (.inl rfl) rfl (je_callC c_law_place hr rfl (ja_cons (je_callC c_law_mix hr rfl (ja_cons (je_callC c_law_pick hr rfl (ja_cons (je_var (i := 0) rfl (.inl rfl) rfl) (ja_cons (je_op op_add r2_add (je_var (i := 1) rfl (.inl rfl) rfl) (je_var (i := 6) rfl (.inl rfl) rfl)) ja_nil)) (by decide)) (ja_cons (je_var (i := 6) rfl (.inl rfl) rfl) ja_nil)) (by decide)) (ja_cons (je_var (i := 2) rfl (.inl rfl) rfl) (ja_cons (je_var (i := 3) rfl (.inl rfl) rfl) (ja_cons (je_var (i := 4) rfl (.inl rfl) rfl) ja_nil)))) (by decide)) (fun rows => (jb_nil (s := rows) (.keep (.keep (.keep (.keep (.keep (.keep (.no .nil))))))))))) (fun s1 => (jb_frz (i := 5) (φ := Cd.at (cL cPl) s1) rfl qL (jb_ret (je_ty call_tuple_of c1_tupL rfl z_tuple (by decide +kernel) (je_var (i := 5) rfl (.inl rfl) rfl))))))))
abbrev sp_law_same (K : PySem.W.Frag) (w : World) : Sp := SpG (A := (List Pl) × (List Pl) × Unit) false (fun x => [Cd.at cGm x.1, Cd.at cGm x.2.1]) (fun x => m_law_same x.1 x.2.1) (fr cB)
theorem sc_law_same : FnScope ["found", "due", "k", "row", "way"] ["found", "due"] (defScope s_law_same) := ⟨rfl, rfl, rfl, by decide +kernel, rfl, by decide +kernel, by decide +kernel⟩
set_option maxHeartbeats 4000000 in
theorem ok_law_same {P : Program} {w : World} {K : PySem.W.Frag} {mg : Str → Option Value} {base : Heap} {f : Addr} {fd : FuncData} (Fu : Fun K "_law_same" "_law_same" s_law_same f fd) (c_law_whole : Cal P w K mg base 1 "_law_whole" ["x"] (sp_law_whole K w)) (z_isinstance : mg "isinstance" = none) (z_tuple : mg "tuple" = none) (z_len : mg "len" = none) (z_range : mg "range" = none) : FnOk P w K mg base CX0 2 f fd ["found", "due"] (sp_law_same K w) := by
  refine fn_g (A := (List Pl) × (List Pl) × Unit) Fu sc_law_same (fun _ => rfl) ?_
  rintro X ⟨found, due, _⟩ ⟨cdv, Ar, outer, s, H, E, rfl⟩ hr
  have hu := hu_of hr
  have hun := hr.units
  show JB _ false _ [En.fz (Cd.at cGm found), En.fz (Cd.at cGm due), En.no, En.no, En.no] _ _ (mo_law_same found due)
  unfold mo_law_same
  exact (jb_ifr (JW.jt (jw_or (jt_not (jt_val (je_isi (cls := "tuple") (f := (fun _ : (List Pl) => true)) (ty := (fun _ => "tuple")) rfl z_isinstance (by decide +kernel) rfl z_tuple (by decide +kernel) (je_var (i := 0) rfl (.inl rfl) rfl) (ty_T _) (fun _ => by decide +kernel)))) (jw_or1 (jt_cmp op_ne r2_ne (je_bi call_len_seq c1_lenT rfl z_len (by decide +kernel) (je_var (i := 0) rfl (.inl rfl) rfl)) (je_bi call_len_seq c1_lenT rfl z_len (by decide +kernel) (je_var (i := 1) rfl (.inl rfl) rfl)) (nomark _))))) (jb_ret je_bl) (jb_for (i := 2) (C := cI) (Γj := fun (s1 : Unit) => [En.fz (Cd.at cGm found), En.fz (Cd.at cGm due), En.no, En.no, En.no]) (s0 := ()) PassesOwn.never rfl sc_law_same.nd rfl (.inl rfl) (ji_rng rfl z_range (je_bi call_len_seq c1_lenT rfl z_len (by decide +kernel) (je_var (i := 1) rfl (.inl rfl) rfl))) (.keep (.keep (.keep (.keep (.keep .nil))))) (fun s1 k_v => (jb_asg (i := 3) (C := cPl) sc_law_same.nd rfl (.inl rfl) (je_ix ix_tup r2_ixT (je_var (i := 0) rfl (.inl rfl) rfl) (je_var (i := 2) rfl (.inl rfl) rfl) (fun _ _ => rfl)) (fun row => (jb_ifr (JW.jt (jw_or (jt_not (jt_val (je_isi (cls := "tuple") (f := (fun _ : Pl => true)) (ty := (fun _ => "tuple")) rfl z_isinstance (by decide +kernel) rfl z_tuple (by decide +kernel) (je_var (i := 3) rfl (.inl rfl) rfl) (ty_3 _) (fun _ => by decide +kernel)))) (jw_or (jt_cmp op_ne r2_ne (je_bi call_len_seq c1_len3 rfl z_len (by decide +kernel) (je_var (i := 3) rfl (.inl rfl) rfl)) je_int (nomark _)) (jw_or1 (jt_not (jt_val (je_isi (cls := "tuple") (f := (fun _ : (List Int) => true)) (ty := (fun _ => "tuple")) rfl z_isinstance (by decide +kernel) rfl z_tuple (by decide +kernel) (je_fld f32 (je_var (i := 3) rfl (.inl rfl) rfl)) (ty_T _) (fun _ => by decide +kernel)))))))) (jb_ret je_bl) (jb_ifr (JW.jt (jw_or (jt_not (jt_val (je_callC c_law_whole hr rfl (ja_cons (je_fld f30 (je_var (i := 3) rfl (.inl rfl) rfl)) ja_nil) (by decide)))) (jw_or (jt_not (jt_val (je_callC c_law_whole hr rfl (ja_cons (je_fld f31 (je_var (i := 3) rfl (.inl rfl) rfl)) ja_nil) (by decide)))) (jw_or1 (jt_cmp (op_neD hun) (r2_neD dPl) (je_var (i := 3) rfl (.inl rfl) rfl) (je_ix ix_tup r2_ixT (je_var (i := 1) rfl (.inl rfl) rfl) (je_var (i := 2) rfl (.inl rfl) rfl) (fun _ _ => rfl)) (nomark _)))))) (jb_ret je_bl) (jb_for (i := 4) (C := cI) (Γj := fun (s2 : Unit) => [En.fz (Cd.at cGm found), En.fz (Cd.at cGm due), En.fz (Cd.at cI k_v), En.fz (Cd.at cPl row), En.no]) (s0 := ()) PassesOwn.never rfl sc_law_same.nd rfl (.inl rfl) (ji_tup (je_fld f32 (je_var (i := 3) rfl (.inl rfl) rfl))) (.keep (.keep (.keep (.keep (.keep .nil))))) (fun s2 way => (jb_ifr (jt_not (jt_val (je_callC c_law_whole hr rfl (ja_cons (je_var (i := 4) rfl (.inl rfl) rfl) ja_nil) (by decide)))) (jb_ret je_bl) (jb_nil (s := ()) (.keep (.keep (.keep (.keep (.no .nil)))))))) (fun s2 => (jb_nil (s := ()) (.keep (.keep (.no (.no (.keep .nil))))))))))))) (fun s1 => (jb_ret je_bl))))
abbrev sp_law_refused (K : PySem.W.Frag) (w : World) : Sp := SpG (A := (List Bool) × Int × Unit) false (fun x => [Cd.at (cL cB) x.1, Cd.at cI x.2.1]) (fun x => m_law_refused x.1 x.2.1) (fr cB)
theorem sc_law_refused : FnScope ["marks", "which", "k"] ["marks", "which"] (defScope s_law_refused) := ⟨rfl, rfl, rfl, by decide +kernel, rfl, by decide +kernel, by decide +kernel⟩
set_option maxHeartbeats 4000000 in
theorem ok_law_refused {P : Program} {w : World} {K : PySem.W.Frag} {mg : Str → Option Value} {base : Heap} {f : Addr} {fd : FuncData} (Fu : Fun K "_law_refused" "_law_refused" s_law_refused f fd) (z_range : mg "range" = none) : FnOk P w K mg base CX0 1 f fd ["marks", "which"] (sp_law_refused K w) := by
  refine fn_g (A := (List Bool) × Int × Unit) Fu sc_law_refused (fun _ => rfl) ?_
  rintro X ⟨marks, which, _⟩ ⟨cdv, Ar, outer, s, H, E, rfl⟩ hr
  have hu := hu_of hr
  have hun := hr.units
  show JB _ false _ [En.fz (Cd.at (cL cB) marks), En.fz (Cd.at cI which), En.no] _ _ (mo_law_refused marks which)
  unfold mo_law_refused
  exact (jb_ret (je_cmp (op_eqD hun) (r2_eqD (dL dB)) (je_var (i := 0) rfl (.inl rfl) rfl) (je_fzL (je_op op_cat r2_cat (je_fzL (je_lc (i := 2) (D := cB) rfl sc_law_refused.nd (ji_rng rfl z_range je_int) (blkOk_by (N := ["marks", "which", "k"]) (own := [("k", 2)]) (sc := defScope s_law_refused) (by decide +kernel)) (fun _ _ _ _ _ => pg_name (i := 2) sc_law_refused.nd rfl (Or.inl rfl) ) (fun _ _ _ _ _ k_v => jts_nil) (fun _ _ _ _ _ k_v => (je_cmp op_eq r2_eq (je_var (i := 2) rfl (.inl rfl) rfl) (je_var (i := 1) rfl (.inr (.inl rfl)) rfl) (nomark _))))) (je_fzL (je_lst (C := cB) (jl_cons je_bl jl_nil))))) (nomark _)))
abbrev sp_law_told18 (K : PySem.W.Frag) (w : World) : Sp := SpG (A := (List Pl) × Wish × Unit) false (fun x => [Cd.at cGm x.1, Cd.at cW x.2.1]) (fun x => m_law_told18 x.1 x.2.1) (fr (c2 (cP cGm) (cL cB)))
theorem sc_law_told18 : FnScope ["game", "wish", "found", "marks", "e"] ["game", "wish"] (defScope s_law_told18) := ⟨rfl, rfl, rfl, by decide +kernel, rfl, by decide +kernel, by decide +kernel⟩
set_option maxHeartbeats 4000000 in
theorem ok_law_told18 {P : Program} {w : World} {K : PySem.W.Frag} {mg : Str → Option Value} {base : Heap} {f : Addr} {fd : FuncData} (Fu : Fun K "_law_told" "_law_told" s_law_told18 f fd) (c_wish_game : CalX P w K mg base 35 "wish_game" ["game", "wish"] (sp_wish_game K w mg)) (z_isinstance : mg "isinstance" = none) (z_ValueError : mg "ValueError" = none) {C_WalkError : Addr} (gx_WalkError : mg "WalkError" = some (.ref C_WalkError)) {C_TooMany : Addr} (gx_TooMany : mg "TooMany" = some (.ref C_TooMany)) {C_Stuck : Addr} (gx_Stuck : mg "Stuck" = some (.ref C_Stuck)) {C_NoPlace : Addr} (gx_NoPlace : mg "NoPlace" = some (.ref C_NoPlace)) {C_Twice : Addr} (gx_Twice : mg "Twice" = some (.ref C_Twice)) {C_Lost : Addr} (gx_Lost : mg "Lost" = some (.ref C_Lost)) {C_Loose : Addr} (gx_Loose : mg "Loose" = some (.ref C_Loose)) {C_NoNote : Addr} (gx_NoNote : mg "NoNote" = some (.ref C_NoNote)) (xm_WalkError : ∀ nm ∈ (["Loose", "TooMany", "Stuck", "NoPlace", "Twice"] : List Str), ∀ cv, mg nm = some cv → PySem.W.exmOne K cv (.ref C_WalkError) = some true) (xi_WalkError : ∀ nm ∈ (["Loose", "TooMany", "Stuck", "NoPlace", "Twice"] : List Str), ∀ cv, mg nm = some cv → ∃ D, cv = .ref D ∧ ExcC K D ∧ PySem.W.kitOne K (.ref D) (.ref C_TooMany) = some (exSub nm "TooMany") ∧ PySem.W.kitOne K (.ref D) (.ref C_Stuck) = some (exSub nm "Stuck") ∧ PySem.W.kitOne K (.ref D) (.ref C_NoPlace) = some (exSub nm "NoPlace") ∧ PySem.W.kitOne K (.ref D) (.ref C_Twice) = some (exSub nm "Twice") ∧ PySem.W.kitOne K (.ref D) (.type "ValueError") = some (exSub nm "ValueError") ∧ PySem.W.kitOne K (.ref D) (.ref C_Lost) = some (exSub nm "Lost") ∧ PySem.W.kitOne K (.ref D) (.ref C_Loose) = some (exSub nm "Loose") ∧ PySem.W.kitOne K (.ref D) (.ref C_NoNote) = some (exSub nm "NoNote")) : FnOk P w K mg base CX0 36 f fd ["game", "wish"] (sp_law_told18 K w) := by
  refine fn_g (A := (List Pl) × Wish × Unit) Fu sc_law_told18 (fun _ => rfl) ?_
  rintro X ⟨game, wish, _⟩ ⟨cdv, Ar, outer, s, H, E, rfl⟩ hr
  have hu := hu_of hr
  have hun := hr.units
  show JB _ false _ [En.fz (Cd.at cGm game), En.fz (Cd.at cW wish), En.no, En.no, En.no] _ _ (mo_law_told18 game wish)
  unfold mo_law_told18
  exact (jb_asg (i := 2) (C := (cP cGm)) sc_law_told18.nd rfl (.inl rfl) je_nonP (fun found => (jb_asgN (i := 3) (M := mL cB) sc_law_told18.nd rfl (.inl rfl) (je_lst (C := cB) jl_nil) (fun marks => (jb_tryAs (i := 4) (j := 2) (C := cGm) (C' := (cP cGm)) (g := some) (Γj := fun (s1 : ((Option (List Pl)) × (List Bool))) => [En.fz (Cd.at cGm game), En.fz (Cd.at cW wish), En.fz (Cd.at (cP cGm) s1.1), En.mu (mL cB s1.2), En.no]) (nms := ["Loose", "TooMany", "Stuck", "NoPlace", "Twice"]) (s0 := (fun a => ((some a), marks))) (ms := (fun nm => ((Option.bind (α := (List Bool)) (bind2 (some (exSub nm "TooMany")) (bind2 (some (exSub nm "Stuck")) (bind2 (some (exSub nm "NoPlace")) (bind2 (some (exSub nm "Twice")) (some []) fun a x => some (a :: x)) fun a x => some (a :: x)) fun a x => some (a :: x)) fun a x => some (a :: x)) pFew).bind fun marks => ((bind2 (some marks) (Option.bind (α := (List Bool)) (bind2 (some (exSub nm "Lost")) (bind2 (some (exSub nm "Loose")) (bind2 (some (exSub nm "NoNote")) (some []) fun a x => some (a :: x)) fun a x => some (a :: x)) fun a x => some (a :: x)) pFew) pCat).bind fun marks => (((some (exSub nm "ValueError")).bind fun a => pApp marks a).bind fun marks => (some (Out.nx (found, marks)))))))) rfl rfl sc_law_told18.nd rfl rfl ⟨rfl, by decide, .inl gx_WalkError⟩ rfl (.inl rfl) (fun W pn xe tk => (jex_call c_wish_game tk hr rfl (ja_cons (je_var (i := 0) rfl (.inl rfl) rfl) (ja_cons (je_var (i := 1) rfl (.inl rfl) rfl) ja_nil)) (by decide))) (fun _ _ _ h => h) xm_WalkError (fun nm hnm cv ec a oe pn hz hf => by obtain ⟨D, rfl, CI, hk0, hk1, hk2, hk3, hk4, hk5, hk6, hk7⟩ := xi_WalkError nm hnm cv ec; exact (jb_frz (i := 3) (φ := Cd.at (cL cB) marks) rfl qL (jb_asg (i := 3) (C := (cL cB)) sc_law_told18.nd rfl (.inl rfl) (je_fzL (je_lst (C := cB) (jl_cons (je_isE (i := 4) CI hz hf hk0 rfl z_isinstance rfl (.inl rfl) rfl (pe_glob (v := .ref C_TooMany) rfl gx_TooMany rfl) (fun _ h => h)) (jl_cons (je_isE (i := 4) CI hz hf hk1 rfl z_isinstance rfl (.inl rfl) rfl (pe_glob (v := .ref C_Stuck) rfl gx_Stuck rfl) (fun _ h => h)) (jl_cons (je_isE (i := 4) CI hz hf hk2 rfl z_isinstance rfl (.inl rfl) rfl (pe_glob (v := .ref C_NoPlace) rfl gx_NoPlace rfl) (fun _ h => h)) (jl_cons (je_isE (i := 4) CI hz hf hk3 rfl z_isinstance rfl (.inl rfl) rfl (pe_glob (v := .ref C_Twice) rfl gx_Twice rfl) (fun _ h => h)) jl_nil)))))) (fun marks => (jb_asgN (i := 3) (M := mL cB) sc_law_told18.nd rfl (.inl rfl) (je_op op_cat r2_cat (je_var (i := 3) rfl (.inl rfl) rfl) (je_fzL (je_lst (C := cB) (jl_cons (je_isE (i := 4) CI hz hf hk5 rfl z_isinstance rfl (.inl rfl) rfl (pe_glob (v := .ref C_Lost) rfl gx_Lost rfl) (fun _ h => h)) (jl_cons (je_isE (i := 4) CI hz hf hk6 rfl z_isinstance rfl (.inl rfl) rfl (pe_glob (v := .ref C_Loose) rfl gx_Loose rfl) (fun _ h => h)) (jl_cons (je_isE (i := 4) CI hz hf hk7 rfl z_isinstance rfl (.inl rfl) rfl (pe_glob (v := .ref C_NoNote) rfl gx_NoNote rfl) (fun _ h => h)) jl_nil)))))) (fun marks => (jb_app (i := 3) rfl (.inl rfl) rfl (je_isE (i := 4) CI hz hf hk4 rfl z_isinstance rfl (.inl rfl) rfl (pe_bltn (v := .ty "ValueError") rfl z_ValueError rfl rfl) (fun _ h => h)) (fun marks => (jb_nil (s := (found, marks)) (.keep (.keep (.keep (.keep (.no .nil)))))))))))))) (fun _ => rfl) (fun a => (.keep (.keep (.keep (.keep (.keep .nil)))))) (fun s1 => (jb_frz (i := 3) (φ := Cd.at (cL cB) s1.2) rfl qL (jb_ret (je_tup2 (je_var (i := 2) rfl (.inl rfl) rfl) (je_var (i := 3) rfl (.inl rfl) rfl))))))))))
abbrev sp_law_spot (K : PySem.W.Frag) (w : World) : Sp := SpM (A := (List Int) × Unit × Unit) (T := (List Int)) false (mL cI) (fun l x => [Cd.at (cScr K) x.1, (cAd l).at x.2.1]) (fun x s => m_law_spot x.1 s) cI
theorem sc_law_spot : FnScope ["script", "spot"] ["script", "spot"] (defScope s_law_spot) := ⟨rfl, rfl, rfl, by decide +kernel, rfl, by decide +kernel, by decide +kernel⟩
set_option maxHeartbeats 4000000 in
theorem ok_law_spot {P : Program} {w : World} {K : PySem.W.Frag} {mg : Str → Option Value} {base : Heap} {f : Addr} {fd : FuncData} (Fu : Fun K "_law_spot" "_law_spot" s_law_spot f fd) (c_law_pick : Cal P w K mg base 2 "_law_pick" ["script", "k"] (sp_law_pick K w)) : FnOk P w K mg base CX0 3 f fd ["script", "spot"] (sp_law_spot K w) := by
  refine fn_m (A := (List Int) × Unit × Unit) (T := (List Int)) (i := 1) Fu sc_law_spot (fun _ _ => rfl) (fun _ _ => rfl) ?_
  rintro X l ⟨script, _, _⟩ spot ⟨cdv, Ar, outer, s, H, E, rfl⟩ hr
  have hu := hu_of hr
  have hun := hr.units
  show JM _ false _ [En.fz (Cd.at (cScr K) script), En.fz ((cAd l).at ())] 1 l (mL cI) spot cI (mo_law_spot script spot)
  unfold mo_law_spot
  exact (jm_setI (i := 1) (show (1 : Nat) < 2 from by decide) rfl (.inl rfl) (je_op op_add r2_add (je_ixMu (i := 1) rfl (.inl rfl) rfl je_int (fun _ _ => rfl)) je_int) je_int (fun s1 => (jm_ret (show (1 : Nat) < 2 from by decide) (jq_je (je_callC c_law_pick hr rfl (ja_cons (je_var (i := 0) rfl (.inl rfl) rfl) (ja_cons (je_ixMu (i := 1) rfl (.inl rfl) rfl je_int (fun _ _ => rfl)) ja_nil)) (by decide))))))
abbrev sp_law_wish (d : Nat) (K : PySem.W.Frag) (w : World) : Sp := SpM (A := (List Int) × Unit × (List Str) × (List Int) × Int × Unit) (T := (List Int)) false (mL cI) (fun l x => [Cd.at (cScr K) x.1, (cAd l).at x.2.1, Cd.at (cL cS) x.2.2.1, Cd.at (cL cI) x.2.2.2.1, Cd.at cI x.2.2.2.2.1]) (fun x s => m_law_wish d x.1 s x.2.2.1 x.2.2.2.1 x.2.2.2.2.1) cW
theorem sc_law_wish : FnScope ["script", "spot", "names", "crowns", "deep", "number", "kind", "name", "inner", "one"] ["script", "spot", "names", "crowns", "deep"] (defScope s_law_wish) := ⟨rfl, rfl, rfl, by decide +kernel, rfl, by decide +kernel, by decide +kernel⟩
set_option maxHeartbeats 4000000 in
theorem ok_law_wish {P : Program} {w : World} {K : PySem.W.Frag} {mg : Str → Option Value} {base : Heap} {f : Addr} {fd : FuncData} {n d : Nat} (Fu : Fun K "_law_wish" "_law_wish" s_law_wish f fd) (hlev : 4 ≤ n) (c_law_mix : Cal P w K mg base 1 "_law_mix" ["cell", "k"] (sp_law_mix K w)) (c_law_spot : Cal P w K mg base 3 "_law_spot" ["script", "spot"] (sp_law_spot K w)) (c_law_wish : Cal P w K mg base n "_law_wish" ["script", "spot", "names", "crowns", "deep"] (sp_law_wish d K w)) (z_len : mg "len" = none) (z_int : mg "int" = none) : FnOk P w K mg base CX0 (n + 1) f fd ["script", "spot", "names", "crowns", "deep"] (sp_law_wish (d + 1) K w) := by
  refine fn_m (A := (List Int) × Unit × (List Str) × (List Int) × Int × Unit) (T := (List Int)) (i := 1) Fu sc_law_wish (fun _ _ => rfl) (fun _ _ => rfl) ?_
  rintro X l ⟨script, _, names, crowns, deep, _⟩ spot ⟨cdv, Ar, outer, s, H, E, rfl⟩ hr
  have hu := hu_of hr
  have hun := hr.units
  show JM _ false _ [En.fz (Cd.at (cScr K) script), En.fz ((cAd l).at ()), En.fz (Cd.at (cL cS) names), En.fz (Cd.at (cL cI) crowns), En.fz (Cd.at cI deep), En.no, En.no, En.no, En.no, En.no] 1 l (mL cI) spot cW (mo_law_wish (m_law_wish d) script spot names crowns deep)
  unfold mo_law_wish
  exact (jm_asg (i := 1) (j := 5) (C' := cI) (by decide) sc_law_wish.nd rfl (.inl rfl) (jq_call c_law_mix hr rfl (jqa_cons (jq_callM (show (1 : Nat) < 10 from by decide) c_law_spot hr rfl (jqa_cons (jq_je (je_var (i := 0) rfl (.inl rfl) rfl)) (fun s1 => (jqa_cons (jq_own rfl (.inl rfl)) (fun s2 => jqa_nil)))) ⟨by omega, by decide⟩) (fun s3 => (jqa_cons (jq_je (je_ixMu (i := 1) rfl (.inl rfl) rfl je_int (fun _ _ => rfl))) (fun s4 => jqa_nil)))) ⟨by omega, by decide⟩) (fun number s5 => (jm_asg (i := 1) (j := 6) (C' := cI) (by decide) sc_law_wish.nd rfl (.inl rfl) (jq_je (je_op op_mod r2_mod (je_var (i := 5) rfl (.inl rfl) rfl) je_int)) (fun kind s6 => (jm_setI (i := 1) (show (1 : Nat) < 10 from by decide) rfl (.inl rfl) (je_op op_sub r2_sub (je_ixMu (i := 1) rfl (.inl rfl) rfl je_int (fun _ _ => rfl)) je_int) je_int (fun s7 => (jm_if (JW.jt (jw_or (jt_cmp op_lt r2_lt (je_var (i := 4) rfl (.inl rfl) rfl) je_int (nomark _)) (jw_or (jt_cmp op_lt r2_lt (je_ixMu (i := 1) rfl (.inl rfl) rfl je_int (fun _ _ => rfl)) je_int (nomark _)) (jw_or1 (jt_cmp op_eq r2_eq (je_var (i := 6) rfl (.inl rfl) rfl) je_int (nomark _)))))) (jm_if (JW.jt (jw_and (jt_cmp (op_ne0 (Nat.lt_of_succ_lt hu)) r2_ne0 (je_var (i := 2) rfl (.inl rfl) rfl) (je_fzL (je_lst (C := cS) jl_nil)) (nomark _)) (jw_and1 (jt_cmp op_gt r2_gt (je_op op_mod r2_mod (je_op op_fdiv r2_div (je_var (i := 5) rfl (.inl rfl) rfl) je_int) je_int) je_int (nomark _))))) (jm_ret (show (1 : Nat) < 10 from by decide) (jq_je (je_co co_S (je_tup2 je_str (je_ix ix_list r2_ixL (je_var (i := 2) rfl (.inl rfl) rfl) (je_op op_mod r2_mod (je_op op_fdiv r2_div (je_var (i := 5) rfl (.inl rfl) rfl) je_int) (je_bi call_len_seq c1_lenL rfl z_len (by decide +kernel) (je_var (i := 2) rfl (.inl rfl) rfl))) (fun _ _ => rfl)))))) (jm_ret (show (1 : Nat) < 10 from by decide) (jq_je (je_co co_I (je_tup2 (je_ix ix_list r2_ixL (je_fzL (je_lst (C := cS) (jl_cons je_str (jl_cons je_str jl_nil)))) (je_op op_mod r2_mod (je_op op_fdiv r2_div (je_var (i := 5) rfl (.inl rfl) rfl) je_int) je_int) (fun _ _ => rfl)) (je_op op_add r2_add (je_ix ix_list r2_ixL (je_var (i := 3) rfl (.inl rfl) rfl) (je_op op_mod r2_mod (je_op op_fdiv r2_div (je_var (i := 5) rfl (.inl rfl) rfl) je_int) (je_bi call_len_seq c1_lenL rfl z_len (by decide +kernel) (je_var (i := 3) rfl (.inl rfl) rfl))) (fun _ _ => rfl)) (je_ty call_int1 c1_intB rfl z_int (by decide +kernel) (je_cmp op_eq r2_eq (je_op op_mod r2_mod (je_op op_fdiv r2_div (je_var (i := 5) rfl (.inl rfl) rfl) je_int) je_int) je_int (nomark _))))))))) (jm_if (jt_cmp op_lt r2_lt (je_var (i := 6) rfl (.inl rfl) rfl) je_int (nomark _)) (jm_asg (i := 1) (j := 9) (C' := cW) (by decide) sc_law_wish.nd rfl (.inl rfl) (jq_callM (show (1 : Nat) < 10 from by decide) c_law_wish hr rfl (jqa_cons (jq_je (je_var (i := 0) rfl (.inl rfl) rfl)) (fun s8 => (jqa_cons (jq_own rfl (.inl rfl)) (fun s9 => (jqa_cons (jq_je (je_var (i := 2) rfl (.inl rfl) rfl)) (fun s10 => (jqa_cons (jq_je (je_var (i := 3) rfl (.inl rfl) rfl)) (fun s11 => (jqa_cons (jq_je (je_op op_sub r2_sub (je_var (i := 4) rfl (.inl rfl) rfl) je_int)) (fun s12 => jqa_nil)))))))))) ⟨by omega, by decide⟩) (fun one s13 => (jm_ret (show (1 : Nat) < 10 from by decide) (jq_co co_B (jq_tup3 (jq_je (je_ix ix_list r2_ixL (je_fzL (je_lst (C := cS) (jl_cons je_str (jl_cons je_str jl_nil)))) (je_op op_sub r2_sub (je_var (i := 6) rfl (.inl rfl) rfl) je_int) (fun _ _ => rfl))) (fun s14 => (jq_je (je_var (i := 9) rfl (.inl rfl) rfl))) (fun s15 => (jq_callM (show (1 : Nat) < 10 from by decide) c_law_wish hr rfl (jqa_cons (jq_je (je_var (i := 0) rfl (.inl rfl) rfl)) (fun s16 => (jqa_cons (jq_own rfl (.inl rfl)) (fun s17 => (jqa_cons (jq_je (je_var (i := 2) rfl (.inl rfl) rfl)) (fun s18 => (jqa_cons (jq_je (je_var (i := 3) rfl (.inl rfl) rfl)) (fun s19 => (jqa_cons (jq_je (je_op op_sub r2_sub (je_var (i := 4) rfl (.inl rfl) rfl) je_int)) (fun s20 => jqa_nil)))))))))) ⟨by omega, by decide⟩))))))) (jm_if (jt_cmp op_lt r2_lt (je_var (i := 6) rfl (.inl rfl) rfl) je_int (nomark _)) (jm_ret (show (1 : Nat) < 10 from by decide) (jq_co co_U (jq_tup2 (jq_je (je_ix ix_list r2_ixL (je_fzL (je_lst (C := cS) (jl_cons je_str (jl_cons je_str jl_nil)))) (je_op op_sub r2_sub (je_var (i := 6) rfl (.inl rfl) rfl) je_int) (fun _ _ => rfl))) (fun s22 => (jq_callM (show (1 : Nat) < 10 from by decide) c_law_wish hr rfl (jqa_cons (jq_je (je_var (i := 0) rfl (.inl rfl) rfl)) (fun s23 => (jqa_cons (jq_own rfl (.inl rfl)) (fun s24 => (jqa_cons (jq_je (je_var (i := 2) rfl (.inl rfl) rfl)) (fun s25 => (jqa_cons (jq_je (je_var (i := 3) rfl (.inl rfl) rfl)) (fun s26 => (jqa_cons (jq_je (je_op op_sub r2_sub (je_var (i := 4) rfl (.inl rfl) rfl) je_int)) (fun s27 => jqa_nil)))))))))) ⟨by omega, by decide⟩))))) (jm_asg (i := 1) (j := 7) (C' := cS) (by decide) sc_law_wish.nd rfl (.inl rfl) (jq_je (je_ix ix_list r2_ixL (je_fzL (je_lst (C := cS) (jl_cons je_str (jl_cons je_str (jl_cons je_str (jl_cons je_str jl_nil)))))) (je_op op_mod r2_mod (je_op op_fdiv r2_div (je_var (i := 5) rfl (.inl rfl) rfl) je_int) je_int) (fun _ _ => rfl))) (fun name s29 => (jm_asg (i := 1) (j := 8) (C' := cW) (by decide) sc_law_wish.nd rfl (.inl rfl) (jq_callM (show (1 : Nat) < 10 from by decide) c_law_wish hr rfl (jqa_cons (jq_je (je_var (i := 0) rfl (.inl rfl) rfl)) (fun s30 => (jqa_cons (jq_own rfl (.inl rfl)) (fun s31 => (jqa_cons (jq_je (je_fzL (je_op op_cat r2_cat (je_var (i := 2) rfl (.inl rfl) rfl) (je_fzL (je_lst (C := cS) (jl_cons (je_var (i := 7) rfl (.inl rfl) rfl) jl_nil)))))) (fun s32 => (jqa_cons (jq_je (je_var (i := 3) rfl (.inl rfl) rfl)) (fun s33 => (jqa_cons (jq_je (je_op op_sub r2_sub (je_var (i := 4) rfl (.inl rfl) rfl) je_int)) (fun s34 => jqa_nil)))))))))) ⟨by omega, by decide⟩) (fun inner s35 => (jm_ret (show (1 : Nat) < 10 from by decide) (jq_je (je_co co_Q (je_tup3 (je_ix ix_list r2_ixL (je_fzL (je_lst (C := cS) (jl_cons je_str (jl_cons je_str (jl_cons je_str (jl_cons je_str jl_nil)))))) (je_op op_sub r2_sub (je_var (i := 6) rfl (.inl rfl) rfl) je_int) (fun _ _ => rfl)) (je_var (i := 7) rfl (.inl rfl) rfl) (je_var (i := 8) rfl (.inl rfl) rfl))))))))))))))))))
abbrev sp_law_parts (K : PySem.W.Frag) (w : World) : Sp := SpG (A := Wish × Unit) false (fun x => [Cd.at cW x.1]) (fun x => m_law_parts x.1) (fr (cL cW))
theorem sc_law_parts : FnScope ["wish"] ["wish"] (defScope s_law_parts) := ⟨rfl, rfl, rfl, by decide +kernel, rfl, by decide +kernel, by decide +kernel⟩
set_option maxHeartbeats 4000000 in
theorem ok_law_parts {P : Program} {w : World} {K : PySem.W.Frag} {mg : Str → Option Value} {base : Heap} {f : Addr} {fd : FuncData} (Fu : Fun K "_law_parts" "_law_parts" s_law_parts f fd) (z_list : mg "list" = none) : FnOk P w K mg base CX0 1 f fd ["wish"] (sp_law_parts K w) := by
  refine fn_g (A := Wish × Unit) Fu sc_law_parts (fun _ => rfl) ?_
  rintro X ⟨wish, _⟩ ⟨cdv, Ar, outer, s, H, E, rfl⟩ hr
  have hu := hu_of hr
  have hun := hr.units
  show JB _ false _ [En.fz (Cd.at cW wish)] _ _ (mo_law_parts wish)
  unfold mo_law_parts
  exact (jb_ifr (jt_cmp op_in_seq r2_inTS (je_fld fW0 (je_var (i := 0) rfl (.inl rfl) rfl)) (je_tupV (C := cS) (jl_cons je_str (jl_cons je_str (jl_cons je_str jl_nil)))) rfl) (jb_ret (je_fzL (je_lst (C := cW) jl_nil))) (jb_ifr (jt_cmp op_in_seq r2_inTS (je_fld fW0 (je_var (i := 0) rfl (.inl rfl) rfl)) (je_tupV (C := cS) (jl_cons je_str (jl_cons je_str jl_nil))) rfl) (jb_ret (je_fzL (je_lst (C := cW) (jl_cons (je_fldO fW2W (je_var (i := 0) rfl (.inl rfl) rfl)) jl_nil)))) (jb_ret (je_fzL (je_ty call_list_of c1_lstT rfl z_list (by decide +kernel) (je_slW (je_var (i := 0) rfl (.inl rfl) rfl)))))))
abbrev sp_law_signs (d : Nat) (K : PySem.W.Frag) (w : World) : Sp := SpG (A := Wish × Unit) false (fun x => [Cd.at cW x.1]) (fun x => m_law_signs d x.1) (fr cI)
theorem sc_law_signs : FnScope ["wish", "part"] ["wish"] (defScope s_law_signs) := ⟨rfl, rfl, rfl, by decide +kernel, rfl, by decide +kernel, by decide +kernel⟩
set_option maxHeartbeats 4000000 in
theorem ok_law_signs {P : Program} {w : World} {K : PySem.W.Frag} {mg : Str → Option Value} {base : Heap} {f : Addr} {fd : FuncData} {n d : Nat} (Fu : Fun K "_law_signs" "_law_signs" s_law_signs f fd) (hlev : 2 ≤ n) (c_law_parts : Cal P w K mg base 1 "_law_parts" ["wish"] (sp_law_parts K w)) (c_law_signs : Cal P w K mg base n "_law_signs" ["wish"] (sp_law_signs d K w)) (z_sum : mg "sum" = none) : FnOk P w K mg base CX0 (n + 1) f fd ["wish"] (sp_law_signs (d + 1) K w) := by
  refine fn_g (mo := fun x => mo_law_signs (m_law_signs d) x.1) (A := Wish × Unit) Fu sc_law_signs (fun _ => rfl) ?_
  rintro X ⟨wish, _⟩ ⟨cdv, Ar, outer, s, H, E, rfl⟩ hr
  have hu := hu_of hr
  have hun := hr.units
  show JB _ false _ [En.fz (Cd.at cW wish), En.no] _ _ (mo_law_signs (m_law_signs d) wish)
  unfold mo_law_signs
  exact (jb_ret (je_op op_add r2_add je_int (je_bi (cr_sum rfl) c1_sum rfl z_sum (by decide +kernel) (je_fzL (je_lc (i := 1) (D := cI) rfl sc_law_signs.nd (ji_list (je_callC c_law_parts hr rfl (ja_cons (je_var (i := 0) rfl (.inl rfl) rfl) ja_nil) ⟨by omega, by decide⟩)) (blkOk_by (N := ["wish", "part"]) (own := [("part", 1)]) (sc := defScope s_law_signs) (by decide +kernel)) (fun _ _ _ _ _ => pg_name (i := 1) sc_law_signs.nd rfl (Or.inl rfl) ) (fun _ _ _ _ _ part => jts_nil) (fun _ _ _ _ _ part => (je_callC c_law_signs hr rfl (ja_cons (je_var (i := 1) rfl (.inl rfl) rfl) ja_nil) ⟨by omega, by decide⟩)))))))
abbrev sp_law_binders (d : Nat) (K : PySem.W.Frag) (w : World) : Sp := SpG (A := Wish × Unit) false (fun x => [Cd.at cW x.1]) (fun x => m_law_binders d x.1) (fr cI)
theorem sc_law_binders : FnScope ["wish", "many", "part"] ["wish"] (defScope s_law_binders) := ⟨rfl, rfl, rfl, by decide +kernel, rfl, by decide +kernel, by decide +kernel⟩
set_option maxHeartbeats 4000000 in
theorem ok_law_binders {P : Program} {w : World} {K : PySem.W.Frag} {mg : Str → Option Value} {base : Heap} {f : Addr} {fd : FuncData} {n d : Nat} (Fu : Fun K "_law_binders" "_law_binders" s_law_binders f fd) (hlev : 2 ≤ n) (c_law_parts : Cal P w K mg base 1 "_law_parts" ["wish"] (sp_law_parts K w)) (c_law_binders : Cal P w K mg base n "_law_binders" ["wish"] (sp_law_binders d K w)) (z_int : mg "int" = none) : FnOk P w K mg base CX0 (n + 1) f fd ["wish"] (sp_law_binders (d + 1) K w) := by
  refine fn_g (mo := fun x => mo_law_binders (m_law_binders d) x.1) (A := Wish × Unit) Fu sc_law_binders (fun _ => rfl) ?_
  rintro X ⟨wish, _⟩ ⟨cdv, Ar, outer, s, H, E, rfl⟩ hr
  have hu := hu_of hr
  have hun := hr.units
  show JB _ false _ [En.fz (Cd.at cW wish), En.no, En.no] _ _ (mo_law_binders (m_law_binders d) wish)
  unfold mo_law_binders
  exact (jb_asg (i := 1) (C := cI) sc_law_binders.nd rfl (.inl rfl) je_int (fun many => (jb_for (i := 2) (C := cW) (Γj := fun (s1 : Int) => [En.fz (Cd.at cW wish), En.fz (Cd.at cI s1), En.no]) (s0 := many) PassesOwn.never rfl sc_law_binders.nd rfl (.inl rfl) (ji_list (je_callC c_law_parts hr rfl (ja_cons (je_var (i := 0) rfl (.inl rfl) rfl) ja_nil) ⟨by omega, by decide⟩)) (.keep (.keep (.keep .nil))) (fun s1 part => (jb_asg (i := 1) (C := cI) sc_law_binders.nd rfl (.inl rfl) (je_op op_add r2_add (je_op op_add r2_add (je_var (i := 1) rfl (.inl rfl) rfl) (je_callC c_law_binders hr rfl (ja_cons (je_var (i := 2) rfl (.inl rfl) rfl) ja_nil) ⟨by omega, by decide⟩)) (je_ty call_int1 c1_intB rfl z_int (by decide +kernel) (je_cmp op_in_seq r2_inTS (je_fld fW0 (je_var (i := 2) rfl (.inl rfl) rfl)) (je_tupV (C := cS) (jl_cons je_str (jl_cons je_str jl_nil))) rfl))) (fun many => (jb_nil (s := many) (.keep (.keep (.no .nil))))))) (fun s1 => (jb_ret (je_var (i := 1) rfl (.inl rfl) rfl))))))
abbrev sp_law_lay (d : Nat) (K : PySem.W.Frag) (w : World) : Sp := SpO (A := Wish × (List (Str × Int)) × Unit × Unit) (T := (List (Wish × List Int))) false (fun s => mLW s) (fun l x => [Cd.at cW x.1, Cd.at (cL (c2 cS cI)) x.2.1, (cAd l).at x.2.2.1]) (fun x s => m_law_lay d x.1 x.2.1 s) cN
theorem sc_law_lay : FnScope ["wish", "names", "found", "at", "part", "pair"] ["wish", "names", "found"] (defScope s_law_lay) := ⟨rfl, rfl, rfl, by decide +kernel, rfl, by decide +kernel, by decide +kernel⟩
set_option maxHeartbeats 4000000 in
theorem ok_law_lay {P : Program} {w : World} {K : PySem.W.Frag} {mg : Str → Option Value} {base : Heap} {f : Addr} {fd : FuncData} {n d : Nat} (Fu : Fun K "_law_lay" "_law_lay" s_law_lay f fd) (hlev : 2 ≤ n) (c_law_parts : Cal P w K mg base 1 "_law_parts" ["wish"] (sp_law_parts K w)) (c_law_lay : Cal P w K mg base n "_law_lay" ["wish", "names", "found"] (sp_law_lay d K w)) (z_len : mg "len" = none) : FnOk P w K mg base CX0 (n + 1) f fd ["wish", "names", "found"] (sp_law_lay (d + 1) K w) := by
  refine fn_oN (A := Wish × (List (Str × Int)) × Unit × Unit) (T := (List (Wish × List Int))) (i := 2) (mo := fun x s => mo_law_lay (m_law_lay d) x.1 x.2.1 s) (fun _ _ => rfl) Fu sc_law_lay (fun _ _ => rfl) (fun _ _ => rfl) ?_
  rintro X l ⟨wish, names, _, _⟩ found ⟨cdv, Ar, outer, s, H, E, rfl⟩ hr
  have hu := hu_of hr
  have hun := hr.units
  show JB _ false _ [En.fz (Cd.at cW wish), En.fz (Cd.at (cL (c2 cS cI)) names), En.ow (atA l (mLW found)), En.no, En.no, En.no] (fun t => [En.no, En.no, En.ow (atA l (mLW t)), En.no, En.no, En.no]) (rkO l (fun s => mLW s) cN) (mo_law_lay (m_law_lay d) wish names found)
  unfold mo_law_lay
  exact (jb_asg (i := 3) (C := cI) sc_law_lay.nd rfl (.inl rfl) (je_peekO 2 rfl (qAt qLW) (fr_indep cI_flat) (je_bi call_len_seq c1_lenL rfl z_len (by decide +kernel) (je_var (i := 2) rfl (.inl rfl) rfl))) (fun at_v => (jb_appW (i := 2) rfl (.inl rfl) rfl (je_lstWL (je_var (i := 0) rfl (.inr (.inl rfl)) rfl) (je_lst (C := cI) (jl_cons (je_var (i := 3) rfl (.inl rfl) rfl) jl_nil))) (fun s1 => (jb_if (Γj := fun (s3 : (List (Wish × List Int))) => [En.fz (Cd.at cW wish), En.fz (Cd.at (cL (c2 cS cI)) names), En.ow (atA l (mLW s3)), En.fz (Cd.at cI at_v), En.no, En.no]) (jt_cmp op_eq r2_eqS (je_fld fW0 (je_var (i := 0) rfl (.inr (.inl rfl)) rfl)) je_str (nomark _)) (jb_setW1 (i := 2) rfl (.inl rfl) rfl (je_lst (C := cI) (jl_cons (je_ix ix_list r2_ixL (je_fzL (je_lc (i := 5) (D := cI) rfl sc_law_lay.nd (ji_list (je_var (i := 1) rfl (.inl rfl) rfl)) (blkOk_by (N := ["wish", "names", "found", "at", "part", "pair"]) (own := [("pair", 5)]) (sc := defScope s_law_lay) (by decide +kernel)) (fun _ _ _ _ _ => pg_name (i := 5) sc_law_lay.nd rfl (Or.inl rfl) ) (fun _ _ _ _ _ pair => (jts_one (jt_cmp op_eq r2_eqS (je_fld f20 (je_var (i := 5) rfl (.inl rfl) rfl)) (je_fldO fW1S (je_var (i := 0) rfl (.inr (.inl rfl)) rfl)) (nomark _)))) (fun _ _ _ _ _ pair => (je_fld f21 (je_var (i := 5) rfl (.inl rfl) rfl))))) (je_neg je_int) (fun _ _ => rfl)) jl_nil)) (je_var (i := 3) rfl (.inl rfl) rfl) (fun s4 => (jb_nil (s := s4) (.keep (.keep (.keep (.keep (.keep (.keep .nil))))))))) (jb_nil (s := s1) (.keep (.keep (.keep (.keep (.keep (.keep .nil))))))) (fun s3 => (jb_if (Γj := fun (s5 : (List (Str × Int))) => [En.fz (Cd.at cW wish), En.fz (Cd.at (cL (c2 cS cI)) s5), En.ow (atA l (mLW s3)), En.fz (Cd.at cI at_v), En.no, En.no]) (jt_cmp op_in_seq r2_inTS (je_fld fW0 (je_var (i := 0) rfl (.inr (.inl rfl)) rfl)) (je_tupV (C := cS) (jl_cons je_str (jl_cons je_str jl_nil))) rfl) (jb_asg (i := 1) (C := (cL (c2 cS cI))) sc_law_lay.nd rfl (.inl rfl) (je_fzL (je_op op_cat r2_cat (je_var (i := 1) rfl (.inl rfl) rfl) (je_fzL (je_lst (C := (c2 cS cI)) (jl_cons (je_tup2 (je_fldO fW1S (je_var (i := 0) rfl (.inr (.inl rfl)) rfl)) (je_var (i := 3) rfl (.inl rfl) rfl)) jl_nil))))) (fun names => (jb_nil (s := names) (.keep (.keep (.keep (.keep (.keep (.keep .nil))))))))) (jb_nil (s := names) (.keep (.keep (.keep (.keep (.keep (.keep .nil))))))) (fun s5 => (jb_for (i := 4) (C := cW) (Γj := fun (s6 : (List (Wish × List Int))) => [En.fz (Cd.at cW wish), En.fz (Cd.at (cL (c2 cS cI)) s5), En.ow (atA l (mLW s6)), En.fz (Cd.at cI at_v), En.no, En.no]) (s0 := s3) PassesOwn.never rfl sc_law_lay.nd rfl (.inl rfl) (ji_list (je_callC c_law_parts hr rfl (ja_cons (je_var (i := 0) rfl (.inr (.inl rfl)) rfl) ja_nil) ⟨by omega, by decide⟩)) (.keep (.keep (.keep (.keep (.keep (.keep .nil)))))) (fun s6 part => (jb_if (Γj := fun (s8 : (List (Wish × List Int))) => [En.fz (Cd.at cW wish), En.fz (Cd.at (cL (c2 cS cI)) s5), En.ow (atA l (mLW s8)), En.fz (Cd.at cI at_v), En.fz (Cd.at cW part), En.no]) (jt_peekO 2 rfl (qAt qLW) (jt_cmp (op_eqD hun) (r2_eqD (dL dI)) (je_fldL fWL1 (je_ix ix_list r2_ixL (je_var (i := 2) rfl (.inl rfl) rfl) (je_var (i := 3) rfl (.inl rfl) rfl) (fun _ _ => rfl))) (je_fzL (je_lst (C := cI) (jl_cons (je_var (i := 3) rfl (.inl rfl) rfl) jl_nil))) (nomark _))) (jb_setW1 (i := 2) rfl (.inl rfl) rfl (je_lst (C := cI) jl_nil) (je_var (i := 3) rfl (.inl rfl) rfl) (fun s9 => (jb_nil (s := s9) (.keep (.keep (.keep (.keep (.keep (.keep .nil))))))))) (jb_nil (s := s6) (.keep (.keep (.keep (.keep (.keep (.keep .nil))))))) (fun s8 => (jb_appW1 (i := 2) rfl (.inl rfl) rfl (je_peekO 2 rfl (qAt qLW) (fr_indep cI_flat) (je_bi call_len_seq c1_lenL rfl z_len (by decide +kernel) (je_var (i := 2) rfl (.inl rfl) rfl))) (je_var (i := 3) rfl (.inl rfl) rfl) (fun s10 => (jb_exprO (i := 2) (χ := fun s => mLW s) (s := s10) rfl (jo_call (χ := fun s => mLW s) (s := s10) c_law_lay hr rfl (ja_cons (je_var (i := 4) rfl (.inl rfl) rfl) (ja_cons (je_var (i := 1) rfl (.inl rfl) rfl) (ja_cons (je_own (i := 2) rfl (.inl rfl) rfl) ja_nil))) ⟨by omega, by decide⟩) (fun _ s11 => (jb_nil (s := s11) (.keep (.keep (.keep (.keep (.no (.keep .nil)))))))))))))) (fun s6 => (jb_nil (s := s6) (.no (.no (.keep (.no (.no (.no .nil)))))))))))))))))
abbrev sp_law_crown (K : PySem.W.Frag) (w : World) : Sp := SpG (A := Wish × Int × Unit) false (fun x => [Cd.at cW x.1, Cd.at cI x.2.1]) (fun x => m_law_crown x.1 x.2.1) (fr cI)
theorem sc_law_crown : FnScope ["wish", "crown"] ["wish", "crown"] (defScope s_law_crown) := ⟨rfl, rfl, rfl, by decide +kernel, rfl, by decide +kernel, by decide +kernel⟩
set_option maxHeartbeats 4000000 in
theorem ok_law_crown {P : Program} {w : World} {K : PySem.W.Frag} {mg : Str → Option Value} {base : Heap} {f : Addr} {fd : FuncData} (Fu : Fun K "_law_crown" "_law_crown" s_law_crown f fd) (c_law_binders : Cal P w K mg base 32 "_law_binders" ["wish"] (sp_law_binders 30 K w)) (z_int : mg "int" = none) : FnOk P w K mg base CX0 33 f fd ["wish", "crown"] (sp_law_crown K w) := by
  refine fn_g (A := Wish × Int × Unit) Fu sc_law_crown (fun _ => rfl) ?_
  rintro X ⟨wish, crown, _⟩ ⟨cdv, Ar, outer, s, H, E, rfl⟩ hr
  have hu := hu_of hr
  have hun := hr.units
  show JB _ false _ [En.fz (Cd.at cW wish), En.fz (Cd.at cI crown)] _ _ (mo_law_crown wish crown)
  unfold mo_law_crown
  exact (jb_ifr (JW.jt (jw_or (jt_cmp op_eq r2_eqS (je_fld fW0 (je_var (i := 0) rfl (.inl rfl) rfl)) je_str (nomark _)) (jw_or1 (jt_cmp op_eq r2_eqS (je_fld fW0 (je_var (i := 0) rfl (.inl rfl) rfl)) je_str (nomark _))))) (jb_ret (je_op op_add r2_add (je_op op_mul r2_mul je_int (je_callC c_law_binders hr rfl (ja_cons (je_var (i := 0) rfl (.inl rfl) rfl) ja_nil) (by decide))) (je_ty call_int1 c1_intB rfl z_int (by decide +kernel) (je_cmp op_eq r2_eqS (je_fld fW0 (je_var (i := 0) rfl (.inl rfl) rfl)) je_str (nomark _))))) (jb_ifr (JW.jt (jw_or (jt_cmp op_eq r2_eqS (je_fld fW0 (je_var (i := 0) rfl (.inl rfl) rfl)) je_str (nomark _)) (jw_or1 (jt_cmp op_eq r2_eqS (je_fld fW0 (je_var (i := 0) rfl (.inl rfl) rfl)) je_str (nomark _))))) (jb_ret (je_ty call_int1 c1_intB rfl z_int (by decide +kernel) (je_cmp op_ne r2_neB (je_cmp op_eq r2_eq (je_fldO fW1I (je_var (i := 0) rfl (.inl rfl) rfl)) (je_var (i := 1) rfl (.inl rfl) rfl) (nomark _)) (je_cmp op_eq r2_eqS (je_fld fW0 (je_var (i := 0) rfl (.inl rfl) rfl)) je_str (nomark _)) (nomark _)))) (jb_ret je_int)))
abbrev sp_law_rows_of (K : PySem.W.Frag) (w : World) : Sp := SpG (A := (List Pl) × Wish × Unit) false (fun x => [Cd.at cGm x.1, Cd.at cW x.2.1]) (fun x => m_law_rows_of x.1 x.2.1) (fr cGm)
theorem sc_law_rows_of : FnScope ["game", "wish", "laid", "rows", "at", "sign", "kind", "starts", "ways", "start", "number"] ["game", "wish"] (defScope s_law_rows_of) := ⟨rfl, rfl, rfl, by decide +kernel, rfl, by decide +kernel, by decide +kernel⟩
set_option maxHeartbeats 4000000 in
theorem ok_law_rows_of {P : Program} {w : World} {K : PySem.W.Frag} {mg : Str → Option Value} {base : Heap} {f : Addr} {fd : FuncData} (Fu : Fun K "_law_rows_of" "_law_rows_of" s_law_rows_of f fd) (c_law_lay : Cal P w K mg base 32 "_law_lay" ["wish", "names", "found"] (sp_law_lay 30 K w)) (c_law_crown : Cal P w K mg base 33 "_law_crown" ["wish", "crown"] (sp_law_crown K w)) (z_range : mg "range" = none) (z_len : mg "len" = none) (z_list : mg "list" = none) (z_int : mg "int" = none) (z_tuple : mg "tuple" = none) : FnOk P w K mg base CX0 34 f fd ["game", "wish"] (sp_law_rows_of K w) := by
  refine fn_g (A := (List Pl) × Wish × Unit) Fu sc_law_rows_of (fun _ => rfl) ?_
  rintro X ⟨game, wish, _⟩ ⟨cdv, Ar, outer, s, H, E, rfl⟩ hr
  have hu := hu_of hr
  have hun := hr.units
  show JB _ false _ [En.fz (Cd.at cGm game), En.fz (Cd.at cW wish), En.no, En.no, En.no, En.no, En.no, En.no, En.no, En.no, En.no] _ _ (mo_law_rows_of game wish)
  unfold mo_law_rows_of
  exact (jb_asgLW (i := 2) sc_law_rows_of.nd rfl (.inr rfl) (NoOw.ne (.fz (.fz (.mu (.no (.no (.no (.no (.no (.no (.no (.no .nil)))))))))))) (show (2 : Nat) < 11 from by decide) (fun l => (jb_exprO (i := 2) (χ := fun s => mLW s) (s := []) rfl (jo_call (χ := fun s => mLW s) (s := []) c_law_lay hr rfl (ja_cons (je_var (i := 1) rfl (.inl rfl) rfl) (ja_cons (je_fzL (je_lst (C := (c2 cS cI)) jl_nil)) (ja_cons (je_own (i := 2) rfl (.inr (.inl rfl)) rfl) ja_nil))) (by decide)) (fun _ s1 => (jb_asgN (i := 3) (M := mL cPl) sc_law_rows_of.nd rfl (.inl rfl) (je_lst (C := cPl) jl_nil) (fun rows => (jb_frzO (i := 2) (φ := Cd.at (cL cWL) s1) rfl (qAt qLW) (jb_for (i := 4) (C := cI) (Γj := fun (s2 : (List Pl)) => [En.fz (Cd.at cGm game), En.fz (Cd.at cW wish), En.fz (Cd.at (cL cWL) s1), En.mu (mL cPl s2), En.no, En.no, En.no, En.no, En.no, En.no, En.no]) (s0 := rows) PassesOwn.never rfl sc_law_rows_of.nd rfl (.inl rfl) (ji_rng rfl z_range (je_bi call_len_seq c1_lenT rfl z_len (by decide +kernel) (je_var (i := 0) rfl (.inl rfl) rfl))) (.keep (.keep (.keep (.keep (.keep (.keep (.keep (.keep (.keep (.keep (.keep .nil))))))))))) (fun s2 at_v => (jb_for (i := 5) (C := cWL) (Γj := fun (s3 : (List Pl)) => [En.fz (Cd.at cGm game), En.fz (Cd.at cW wish), En.fz (Cd.at (cL cWL) s1), En.mu (mL cPl s3), En.fz (Cd.at cI at_v), En.no, En.no, En.no, En.no, En.no, En.no]) (s0 := s2) PassesOwn.never rfl sc_law_rows_of.nd rfl (.inl rfl) (ji_list (je_var (i := 2) rfl (.inr (.inl rfl)) rfl)) (.keep (.keep (.keep (.keep (.keep (.keep (.keep (.keep (.keep (.keep (.keep .nil))))))))))) (fun s3 sign => (jb_asg (i := 6) (C := cS) sc_law_rows_of.nd rfl (.inl rfl) (je_fld fW0 (je_fldL fWL0 (je_var (i := 5) rfl (.inl rfl) rfl))) (fun kind => (jb_asg (i := 7) (C := (cL cI)) sc_law_rows_of.nd rfl (.inl rfl) (je_fzL (je_lst (C := cI) (jl_cons (je_var (i := 4) rfl (.inl rfl) rfl) jl_nil))) (fun starts => (jb_if (Γj := fun (s4 : (List Int)) => [En.fz (Cd.at cGm game), En.fz (Cd.at cW wish), En.fz (Cd.at (cL cWL) s1), En.mu (mL cPl s3), En.fz (Cd.at cI at_v), En.fz (Cd.at cWL sign), En.fz (Cd.at cS kind), En.fz (Cd.at (cL cI) s4), En.no, En.no, En.no]) (JW.jt (jw_or (jt_cmp op_eq r2_eqS (je_var (i := 6) rfl (.inl rfl) rfl) je_str (nomark _)) (jw_or1 (jt_cmp op_eq r2_eqS (je_var (i := 6) rfl (.inl rfl) rfl) je_str (nomark _))))) (jb_asg (i := 7) (C := (cL cI)) sc_law_rows_of.nd rfl (.inl rfl) (je_fzL (je_ty call_list_of c1_lstT rfl z_list (by decide +kernel) (je_fld f32 (je_ix ix_tup r2_ixT (je_var (i := 0) rfl (.inl rfl) rfl) (je_var (i := 4) rfl (.inl rfl) rfl) (fun _ _ => rfl))))) (fun starts => (jb_nil (s := starts) (.keep (.keep (.keep (.keep (.keep (.keep (.keep (.keep (.keep (.keep (.keep .nil)))))))))))))) (jb_nil (s := starts) (.keep (.keep (.keep (.keep (.keep (.keep (.keep (.keep (.keep (.keep (.keep .nil)))))))))))) (fun s4 => (jb_asg (i := 8) (C := (cL cI)) sc_law_rows_of.nd rfl (.inl rfl) (je_fzL (je_lst (C := cI) jl_nil)) (fun ways => (jb_for (i := 9) (C := cI) (Γj := fun (s5 : (List Int)) => [En.fz (Cd.at cGm game), En.fz (Cd.at cW wish), En.fz (Cd.at (cL cWL) s1), En.mu (mL cPl s3), En.fz (Cd.at cI at_v), En.fz (Cd.at cWL sign), En.fz (Cd.at cS kind), En.fz (Cd.at (cL cI) s4), En.fz (Cd.at (cL cI) s5), En.no, En.no]) (s0 := ways) PassesOwn.never rfl sc_law_rows_of.nd rfl (.inr rfl) (ji_list (je_var (i := 7) rfl (.inl rfl) rfl)) (.keep (.keep (.keep (.keep (.keep (.keep (.keep (.keep (.keep (.keep (.keep .nil))))))))))) (fun s5 start => (jb_asg (i := 8) (C := (cL cI)) sc_law_rows_of.nd rfl (.inl rfl) (je_fzL (je_op op_cat r2_cat (je_var (i := 8) rfl (.inl rfl) rfl) (je_fzL (je_lc (i := 10) (D := cI) rfl sc_law_rows_of.nd (ji_list (je_fldL fWL1 (je_var (i := 5) rfl (.inl rfl) rfl))) (blkOk_by (N := ["game", "wish", "laid", "rows", "at", "sign", "kind", "starts", "ways", "start", "number"]) (own := [("number", 10)]) (sc := defScope s_law_rows_of) (by decide +kernel)) (fun _ _ _ _ _ => pg_name (i := 10) sc_law_rows_of.nd rfl (Or.inl rfl) ) (fun _ _ _ _ _ number => jts_nil) (fun _ _ _ _ _ number => (je_op op_add r2_add (je_op op_mul r2_mul (je_var (i := 9) rfl (.inr (.inl rfl)) rfl) (je_bi call_len_seq c1_lenL rfl z_len (by decide +kernel) (je_var (i := 2) rfl (.inr (.inl rfl)) rfl))) (je_var (i := 10) rfl (.inl rfl) rfl))))))) (fun ways => (jb_nil (s := ways) (.keep (.keep (.keep (.keep (.keep (.keep (.keep (.keep (.keep (.no (.keep .nil))))))))))))))) (fun s5 => (jb_app (i := 3) rfl (.inl rfl) rfl (je_tup3 (je_ty call_int1 c1_intB rfl z_int (by decide +kernel) (je_or (je_cmp op_eq r2_eqS (je_var (i := 6) rfl (.inl rfl) rfl) je_str (nomark _)) (je_one (je_cmp op_eq r2_eqS (je_var (i := 6) rfl (.inl rfl) rfl) je_str (nomark _))))) (je_callC c_law_crown hr rfl (ja_cons (je_fldL fWL0 (je_var (i := 5) rfl (.inl rfl) rfl)) (ja_cons (je_fld f31 (je_ix ix_tup r2_ixT (je_var (i := 0) rfl (.inl rfl) rfl) (je_var (i := 4) rfl (.inl rfl) rfl) (fun _ _ => rfl))) ja_nil)) (by decide)) (je_ty call_tuple_of c1_tupL rfl z_tuple (by decide +kernel) (je_var (i := 8) rfl (.inl rfl) rfl))) (fun rows => (jb_nil (s := rows) (.keep (.keep (.keep (.keep (.keep (.no (.no (.no (.no (.keep (.keep .nil))))))))))))))))))))))))) (fun s3 => (jb_nil (s := s3) (.keep (.keep (.keep (.keep (.no (.keep (.keep (.keep (.keep (.keep (.keep .nil))))))))))))))) (fun s2 => (jb_frz (i := 3) (φ := Cd.at (cL cPl) s2) rfl qL (jb_ret (je_ty call_tuple_of c1_tupL rfl z_tuple (by decide +kernel) (je_var (i := 3) rfl (.inl rfl) rfl)))))))))))))
abbrev sp_law_loose (K : PySem.W.Frag) (w : World) : Sp := SpG (A := (List Pl) × Wish × Unit) false (fun x => [Cd.at cGm x.1, Cd.at cW x.2.1]) (fun x => m_law_loose x.1 x.2.1) (fr cB)
theorem sc_law_loose : FnScope ["game", "wish", "told"] ["game", "wish"] (defScope s_law_loose) := ⟨rfl, rfl, rfl, by decide +kernel, rfl, by decide +kernel, by decide +kernel⟩
set_option maxHeartbeats 4000000 in
theorem ok_law_loose {P : Program} {w : World} {K : PySem.W.Frag} {mg : Str → Option Value} {base : Heap} {f : Addr} {fd : FuncData} (Fu : Fun K "_law_loose" "_law_loose" s_law_loose f fd) (c_holds18 : CalX P w K mg base 63 "holds" ["game", "wish"] (sp_holds18 K w mg)) {C_Loose : Addr} (gx_Loose : mg "Loose" = some (.ref C_Loose)) (xm_Loose : ∀ nm ∈ (["Loose"] : List Str), ∀ cv, mg nm = some cv → PySem.W.exmOne K cv (.ref C_Loose) = some true) : FnOk P w K mg base CX0 64 f fd ["game", "wish"] (sp_law_loose K w) := by
  refine fn_g (A := (List Pl) × Wish × Unit) Fu sc_law_loose (fun _ => rfl) ?_
  rintro X ⟨game, wish, _⟩ ⟨cdv, Ar, outer, s, H, E, rfl⟩ hr
  have hu := hu_of hr
  have hun := hr.units
  show JB _ false _ [En.fz (Cd.at cGm game), En.fz (Cd.at cW wish), En.no] _ _ (mo_law_loose game wish)
  unfold mo_law_loose
  exact (jb_asg (i := 2) (C := cB) sc_law_loose.nd rfl (.inl rfl) je_bl (fun told => (jb_tryOnly (Γj := fun (s1 : Bool) => [En.fz (Cd.at cGm game), En.fz (Cd.at cW wish), En.fz (Cd.at cB s1)]) (nms := ["Loose"]) (s0 := (fun a => told)) (ms := (fun nm => ((some true).bind fun told => (some (Out.nx told))))) rfl rfl ⟨rfl, by decide, .inl gx_Loose⟩ (fun W pn xe tk => (jex_call c_holds18 tk hr rfl (ja_cons (je_var (i := 0) rfl (.inl rfl) rfl) (ja_cons (je_var (i := 1) rfl (.inl rfl) rfl) ja_nil)) (by decide))) xm_Loose (fun nm hnm cv ec a oe pn hz hf => (jb_asg (i := 2) (C := cB) sc_law_loose.nd rfl (.inl rfl) je_bl (fun told => (jb_nil (s := told) (.keep (.keep (.keep .nil))))))) (fun a => (.keep (.keep (.keep .nil)))) (fun s1 => (jb_ret (je_var (i := 2) rfl (.inl rfl) rfl))))))
abbrev sp_law_k18 (K : PySem.W.Frag) (w : World) : Sp := SpG (A := (List Int) × Unit) true (fun x => [Cd.at (cScr K) x.1]) (fun x => m_law_k18 x.1) (fr cB)
theorem sc_law_k18 : FnScope ["script", "many", "low", "spread", "game", "wish", "told", "room", "form", "k"] ["script"] (defScope s_law_k18) := ⟨rfl, rfl, rfl, by decide +kernel, rfl, by decide +kernel, by decide +kernel⟩
set_option maxHeartbeats 4000000 in
theorem ok_law_k18 {P : Program} {w : World} {K : PySem.W.Frag} {mg : Str → Option Value} {base : Heap} {f : Addr} {fd : FuncData} (Fu : Fun K "law" "law" s_law_k18 f fd) (c_law_cell_at : Cal P w K mg base 1 "_law_cell_at" ["script", "k"] (sp_law_cell_at K w)) (c_law_game : Cal P w K mg base 3 "_law_game" ["script", "start", "many", "spread", "low"] (sp_law_game K w)) (c_law_wish : Cal P w K mg base 9 "_law_wish" ["script", "spot", "names", "crowns", "deep"] (sp_law_wish 5 K w)) (c_law_signs : Cal P w K mg base 32 "_law_signs" ["wish"] (sp_law_signs 30 K w)) (c_law_refused : Cal P w K mg base 1 "_law_refused" ["marks", "which"] (sp_law_refused K w)) (c_law_told18 : Cal P w K mg base 36 "_law_told" ["game", "wish"] (sp_law_told18 K w)) (c_law_loose : Cal P w K mg base 64 "_law_loose" ["game", "wish"] (sp_law_loose K w)) (c_law_same : Cal P w K mg base 2 "_law_same" ["found", "due"] (sp_law_same K w)) (c_law_rows_of : Cal P w K mg base 34 "_law_rows_of" ["game", "wish"] (sp_law_rows_of K w)) (z_range : mg "range" = none) (z_min : mg "min" = none) : FnOk P w K mg base CX0 65 f fd ["script"] (sp_law_k18 K w) := by
  refine fn_g (A := (List Int) × Unit) Fu sc_law_k18 (fun _ => rfl) ?_
  rintro X ⟨script, _⟩ ⟨cdv, Ar, outer, s, H, E, rfl⟩ hr
  have hu := hu_of hr
  have hun := hr.units
  show JB _ true _ [En.fz (Cd.at (cScr K) script), En.no, En.no, En.no, En.no, En.no, En.no, En.no, En.no, En.no] _ _ (mo_law_k18 script)
  unfold mo_law_k18
  exact (jb_asg (i := 1) (C := cI) sc_law_k18.nd rfl (.inl rfl) (je_op op_add r2_add je_int (je_op op_mod r2_mod (je_callC c_law_cell_at hr rfl (ja_cons (je_var (i := 0) rfl (.inl rfl) rfl) (ja_cons je_int ja_nil)) (by decide)) je_int)) (fun many => (jb_asg (i := 2) (C := cI) sc_law_k18.nd rfl (.inr rfl) (je_op op_mod r2_mod (je_callC c_law_cell_at hr rfl (ja_cons (je_var (i := 0) rfl (.inl rfl) rfl) (ja_cons je_int ja_nil)) (by decide)) (je_op op_pow r2_pow je_int je_int)) (fun low => (jb_asg (i := 3) (C := cI) sc_law_k18.nd rfl (.inl rfl) (je_op op_add r2_add je_int (je_op op_mod r2_mod (je_callC c_law_cell_at hr rfl (ja_cons (je_var (i := 0) rfl (.inl rfl) rfl) (ja_cons je_int ja_nil)) (by decide)) je_int)) (fun spread => (jb_asg (i := 4) (C := cGm) sc_law_k18.nd rfl (.inl rfl) (je_callC c_law_game hr rfl (ja_cons (je_var (i := 0) rfl (.inl rfl) rfl) (ja_cons je_int (ja_cons (je_var (i := 1) rfl (.inl rfl) rfl) (ja_cons (je_var (i := 3) rfl (.inl rfl) rfl) (ja_cons (je_var (i := 2) rfl (.inr (.inl rfl)) rfl) ja_nil))))) (by decide)) (fun game => (jb_asg (i := 5) (C := cW) sc_law_k18.nd rfl (.inl rfl) (je_callN c_law_wish hr rfl (jan_cons (je_var (i := 0) rfl (.inl rfl) rfl) (jan_new (je_lst (C := cI) (jl_cons (je_op op_add r2_add je_int (je_var (i := 1) rfl (.inl rfl) rfl)) (jl_cons je_int jl_nil))) (ja_cons (je_fzL (je_lst (C := cS) jl_nil)) (ja_cons (je_fzL (je_lc (i := 9) (D := cI) rfl sc_law_k18.nd (ji_rng rfl z_range (je_var (i := 3) rfl (.inl rfl) rfl)) (blkOk_by (N := ["script", "many", "low", "spread", "game", "wish", "told", "room", "form", "k"]) (own := [("k", 9)]) (sc := defScope s_law_k18) (by decide +kernel)) (fun _ _ _ _ _ => pg_name (i := 9) sc_law_k18.nd rfl (Or.inl rfl) ) (fun _ _ _ _ _ k_v => jts_nil) (fun _ _ _ _ _ k_v => (je_op op_add r2_add (je_var (i := 2) rfl (.inr (.inl rfl)) rfl) (je_var (i := 9) rfl (.inl rfl) rfl))))) (ja_cons je_int ja_nil))))) (by decide)) (fun wish => (jb_if (Γj := fun (s2 : Wish) => [En.fz (Cd.at (cScr K) script), En.fz (Cd.at cI many), En.fz (Cd.at cI low), En.fz (Cd.at cI spread), En.fz (Cd.at cGm game), En.fz (Cd.at cW s2), En.no, En.no, En.no, En.no]) (JW.jt (jw_and (jt_cmp op_ne r2_ne (je_op op_mod r2_mod (je_callC c_law_cell_at hr rfl (ja_cons (je_var (i := 0) rfl (.inl rfl) rfl) (ja_cons je_int ja_nil)) (by decide)) je_int) je_int (nomark _)) (jw_and1 (jt_cmp op_eq r2_eq (je_op op_mod r2_mod (je_op op_fdiv r2_div (je_callC c_law_cell_at hr rfl (ja_cons (je_var (i := 0) rfl (.inl rfl) rfl) (ja_cons je_int ja_nil)) (by decide)) je_int) je_int) je_int (nomark _))))) (jb_asg (i := 7) (C := cI) sc_law_k18.nd rfl (.inl rfl) (je_min2 rfl rfl z_min (by decide +kernel) (je_op op_mul r2_mul je_int (je_var (i := 1) rfl (.inl rfl) rfl)) (je_op op_add r2_add je_int (je_op op_mul r2_mul (je_op op_mod r2_mod (je_op op_fdiv r2_div (je_callC c_law_cell_at hr rfl (ja_cons (je_var (i := 0) rfl (.inl rfl) rfl) (ja_cons je_int ja_nil)) (by decide)) je_int) je_int) (je_var (i := 1) rfl (.inl rfl) rfl)))) (fun room => (jb_asg (i := 5) (C := cW) sc_law_k18.nd rfl (.inl rfl) (je_co co_I (je_tup2 je_str (je_var (i := 2) rfl (.inr (.inl rfl)) rfl))) (fun wish => (jb_while (Γj := fun (s3 : Wish) => [En.fz (Cd.at (cScr K) script), En.fz (Cd.at cI many), En.fz (Cd.at cI low), En.fz (Cd.at cI spread), En.fz (Cd.at cGm game), En.fz (Cd.at cW s3), En.no, En.fz (Cd.at cI room), En.no, En.no]) (s0 := wish) PassesOwn.never (.keep (.keep (.keep (.keep (.keep (.keep (.keep (.keep (.keep (.keep .nil)))))))))) (fun s3 => (jt_cmp op_le r2_le (je_op op_mul r2_mul (je_var (i := 1) rfl (.inl rfl) rfl) (je_op op_add r2_add (je_callC c_law_signs hr rfl (ja_cons (je_var (i := 5) rfl (.inl rfl) rfl) ja_nil) (by decide)) je_int)) (je_var (i := 7) rfl (.inl rfl) rfl) (nomark _))) (fun s3 => (jb_asg (i := 5) (C := cW) sc_law_k18.nd rfl (.inl rfl) (je_co co_U (je_tup2 (je_ix ix_list r2_ixL (je_fzL (je_lst (C := cS) (jl_cons je_str (jl_cons je_str jl_nil)))) (je_op op_mod r2_mod (je_callC c_law_signs hr rfl (ja_cons (je_var (i := 5) rfl (.inl rfl) rfl) ja_nil) (by decide)) je_int) (fun _ _ => rfl)) (je_var (i := 5) rfl (.inl rfl) rfl))) (fun wish => (jb_nil (s := wish) (.keep (.keep (.keep (.keep (.keep (.keep (.keep (.keep (.keep (.keep .nil)))))))))))))) (fun s3 => (jb_nil (s := s3) (.keep (.keep (.keep (.keep (.keep (.keep (.keep (.no (.keep (.keep .nil))))))))))))))))) (jb_nil (s := wish) (.keep (.keep (.keep (.keep (.keep (.keep (.keep (.keep (.keep (.keep .nil))))))))))) (fun s2 => (jb_ifr (jt_cmp op_eq r2_eq (je_op op_mod r2_mod (je_callC c_law_cell_at hr rfl (ja_cons (je_var (i := 0) rfl (.inl rfl) rfl) (ja_cons je_int ja_nil)) (by decide)) je_int) je_int (nomark _)) (jb_asg (i := 8) (C := cI) sc_law_k18.nd rfl (.inl rfl) (je_op op_mod r2_mod (je_op op_fdiv r2_div (je_callC c_law_cell_at hr rfl (ja_cons (je_var (i := 0) rfl (.inl rfl) rfl) (ja_cons je_int ja_nil)) (by decide)) je_int) je_int) (fun form => (jb_if (Γj := fun (s4 : Wish) => [En.fz (Cd.at (cScr K) script), En.fz (Cd.at cI many), En.fz (Cd.at cI low), En.fz (Cd.at cI spread), En.fz (Cd.at cGm game), En.fz (Cd.at cW s4), En.no, En.no, En.fz (Cd.at cI form), En.no]) (jt_cmp op_eq r2_eq (je_var (i := 8) rfl (.inl rfl) rfl) je_int (nomark _)) (jb_asg (i := 5) (C := cW) sc_law_k18.nd rfl (.inl rfl) (je_co co_B (je_tup3 je_str (je_var (i := 5) rfl (.inl rfl) rfl) (je_co co_Q (je_tup3 je_str je_str (je_co co_B (je_tup3 je_str (je_co co_S (je_tup2 je_str je_str)) (je_co co_S (je_tup2 je_str je_str)))))))) (fun wish => (jb_nil (s := wish) (.keep (.keep (.keep (.keep (.keep (.keep (.keep (.keep (.keep (.keep .nil))))))))))))) (jb_nil (s := s2) (.keep (.keep (.keep (.keep (.keep (.keep (.keep (.keep (.keep (.keep .nil))))))))))) (fun s4 => (jb_if (Γj := fun (s5 : Wish) => [En.fz (Cd.at (cScr K) script), En.fz (Cd.at cI many), En.fz (Cd.at cI low), En.fz (Cd.at cI spread), En.fz (Cd.at cGm game), En.fz (Cd.at cW s5), En.no, En.no, En.fz (Cd.at cI form), En.no]) (jt_cmp op_eq r2_eq (je_var (i := 8) rfl (.inl rfl) rfl) je_int (nomark _)) (jb_asg (i := 5) (C := cW) sc_law_k18.nd rfl (.inl rfl) (je_co co_B (je_tup3 je_str (je_co co_Q (je_tup3 je_str je_str (je_var (i := 5) rfl (.inl rfl) rfl))) (je_co co_U (je_tup2 je_str (je_co co_S (je_tup2 je_str je_str)))))) (fun wish => (jb_nil (s := wish) (.keep (.keep (.keep (.keep (.keep (.keep (.keep (.keep (.keep (.keep .nil))))))))))))) (jb_nil (s := s4) (.keep (.keep (.keep (.keep (.keep (.keep (.keep (.keep (.keep (.keep .nil))))))))))) (fun s5 => (jb_if (Γj := fun (s6 : Wish) => [En.fz (Cd.at (cScr K) script), En.fz (Cd.at cI many), En.fz (Cd.at cI low), En.fz (Cd.at cI spread), En.fz (Cd.at cGm game), En.fz (Cd.at cW s6), En.no, En.no, En.fz (Cd.at cI form), En.no]) (jt_cmp op_eq r2_eq (je_var (i := 8) rfl (.inl rfl) rfl) je_int (nomark _)) (jb_asg (i := 5) (C := cW) sc_law_k18.nd rfl (.inl rfl) (je_co co_B (je_tup3 je_str (je_co co_U (je_tup2 je_str (je_co co_S (je_tup2 je_str je_str)))) (je_co co_Q (je_tup3 je_str je_str (je_var (i := 5) rfl (.inl rfl) rfl))))) (fun wish => (jb_nil (s := wish) (.keep (.keep (.keep (.keep (.keep (.keep (.keep (.keep (.keep (.keep .nil))))))))))))) (jb_nil (s := s5) (.keep (.keep (.keep (.keep (.keep (.keep (.keep (.keep (.keep (.keep .nil))))))))))) (fun s6 => (jb_ret (je_and (je_callC c_law_refused hr rfl (ja_cons (je_fld f21 (je_callC c_law_told18 hr rfl (ja_cons (je_var (i := 4) rfl (.inl rfl) rfl) (ja_cons (je_var (i := 5) rfl (.inl rfl) rfl) ja_nil)) (by decide))) (ja_cons je_int ja_nil)) (by decide)) (je_one (je_callC c_law_loose hr rfl (ja_cons (je_var (i := 4) rfl (.inl rfl) rfl) (ja_cons (je_var (i := 5) rfl (.inl rfl) rfl) ja_nil)) (by decide))))))))))))) (jb_asg (i := 6) (C := (c2 (cP cGm) (cL cB))) sc_law_k18.nd rfl (.inl rfl) (je_callC c_law_told18 hr rfl (ja_cons (je_var (i := 4) rfl (.inl rfl) rfl) (ja_cons (je_var (i := 5) rfl (.inl rfl) rfl) ja_nil)) (by decide)) (fun told => (jb_ifr (jt_cmp op_gt r2_gt (je_op op_mul r2_mul (je_var (i := 1) rfl (.inl rfl) rfl) (je_callC c_law_signs hr rfl (ja_cons (je_var (i := 5) rfl (.inl rfl) rfl) ja_nil) (by decide))) je_int (nomark _)) (jb_ret (je_callC c_law_refused hr rfl (ja_cons (je_fld f21 (je_var (i := 6) rfl (.inl rfl) rfl)) (ja_cons je_int ja_nil)) (by decide))) (jb_ret (je_and (je_cmp (op_eqD hun) (r2_eqD (dL dB)) (je_fld f21 (je_var (i := 6) rfl (.inl rfl) rfl)) (je_fzL (je_lst (C := cB) jl_nil)) (nomark _)) (je_one (je_callC c_law_same hr rfl (ja_cons (je_ofP (je_fld f20 (je_var (i := 6) rfl (.inl rfl) rfl))) (ja_cons (je_callC c_law_rows_of hr rfl (ja_cons (je_var (i := 4) rfl (.inl rfl) rfl) (ja_cons (je_var (i := 5) rfl (.inl rfl) rfl) ja_nil)) (by decide)) ja_nil)) (by decide)))))))))))))))))))))
theorem mk_all {P : Program} {w : World} {K : PySem.W.Frag} {h : Heap} {mg : Str → Option Value} {fa : Addr} (X : K.In h) (G : h.Ns mainGlobals mg) (hfa : mg "law" = some (.ref fa))
    {f1 : Addr} {od1 an1 : Option Addr} {sl1 : Array (Option Value)} {oc1 kV1 dc1 pm1 cd1 ct1 : Value}
    {f2 : Addr} {od2 an2 : Option Addr} {sl2 : Array (Option Value)} {oc2 kV2 dc2 pm2 cd2 ct2 : Value}
    {f3 : Addr} {od3 an3 : Option Addr} {sl3 : Array (Option Value)} {oc3 kV3 dc3 pm3 cd3 ct3 : Value}
    {f4 : Addr} {od4 an4 : Option Addr} {sl4 : Array (Option Value)} {oc4 kV4 dc4 pm4 cd4 ct4 : Value}
    {f5 : Addr} {od5 an5 : Option Addr} {sl5 : Array (Option Value)} {oc5 kV5 dc5 pm5 cd5 ct5 : Value}
    {f6 : Addr} {od6 an6 : Option Addr} {sl6 : Array (Option Value)} {oc6 kV6 dc6 pm6 cd6 ct6 : Value}
    {f7 : Addr} {od7 an7 : Option Addr} {sl7 : Array (Option Value)} {oc7 kV7 dc7 pm7 cd7 ct7 : Value}
    {f8 : Addr} {od8 an8 : Option Addr} {sl8 : Array (Option Value)} {oc8 kV8 dc8 pm8 cd8 ct8 : Value}
    {f9 : Addr} {od9 an9 : Option Addr} {sl9 : Array (Option Value)} {oc9 kV9 dc9 pm9 cd9 ct9 : Value}
    {f10 : Addr} {od10 an10 : Option Addr} {sl10 : Array (Option Value)} {oc10 kV10 dc10 pm10 cd10 ct10 : Value}
    {f11 : Addr} {od11 an11 : Option Addr} {sl11 : Array (Option Value)} {oc11 kV11 dc11 pm11 cd11 ct11 : Value}
    {f12 : Addr} {od12 an12 : Option Addr} {sl12 : Array (Option Value)} {oc12 kV12 dc12 pm12 cd12 ct12 : Value}
    {f13 : Addr} {od13 an13 : Option Addr} {sl13 : Array (Option Value)} {oc13 kV13 dc13 pm13 cd13 ct13 : Value}
    {f14 : Addr} {od14 an14 : Option Addr} {sl14 : Array (Option Value)} {oc14 kV14 dc14 pm14 cd14 ct14 : Value}
    {f15 : Addr} {od15 an15 : Option Addr} {sl15 : Array (Option Value)} {oc15 kV15 dc15 pm15 cd15 ct15 : Value}
    {f16 : Addr} {od16 an16 : Option Addr} {sl16 : Array (Option Value)} {oc16 kV16 dc16 pm16 cd16 ct16 : Value}
    {f17 : Addr} {od17 an17 : Option Addr} {sl17 : Array (Option Value)} {oc17 kV17 dc17 pm17 cd17 ct17 : Value}
    {f18 : Addr} {od18 an18 : Option Addr} {sl18 : Array (Option Value)} {oc18 kV18 dc18 pm18 cd18 ct18 : Value}
    {f19 : Addr} {od19 an19 : Option Addr} {sl19 : Array (Option Value)} {oc19 kV19 dc19 pm19 cd19 ct19 : Value}
    {f20 : Addr} {od20 an20 : Option Addr} {sl20 : Array (Option Value)} {oc20 kV20 dc20 pm20 cd20 ct20 : Value}
    {f21 : Addr} {od21 an21 : Option Addr} {sl21 : Array (Option Value)} {oc21 kV21 dc21 pm21 cd21 ct21 : Value}
    {f22 : Addr} {od22 an22 : Option Addr} {sl22 : Array (Option Value)} {oc22 kV22 dc22 pm22 cd22 ct22 : Value}
    {f23 : Addr} {od23 an23 : Option Addr} {sl23 : Array (Option Value)} {oc23 kV23 dc23 pm23 cd23 ct23 : Value}
    {f24 : Addr} {od24 an24 : Option Addr} {sl24 : Array (Option Value)} {oc24 kV24 dc24 pm24 cd24 ct24 : Value}
    {f25 : Addr} {od25 an25 : Option Addr} {sl25 : Array (Option Value)} {oc25 kV25 dc25 pm25 cd25 ct25 : Value}
    {f26 : Addr} {od26 an26 : Option Addr} {sl26 : Array (Option Value)} {oc26 kV26 dc26 pm26 cd26 ct26 : Value}
    {f27 : Addr} {od27 an27 : Option Addr} {sl27 : Array (Option Value)} {oc27 kV27 dc27 pm27 cd27 ct27 : Value}
    {f28 : Addr} {od28 an28 : Option Addr} {sl28 : Array (Option Value)} {oc28 kV28 dc28 pm28 cd28 ct28 : Value}
    {f29 : Addr} {od29 an29 : Option Addr} {sl29 : Array (Option Value)} {oc29 kV29 dc29 pm29 cd29 ct29 : Value}
    {f30 : Addr} {od30 an30 : Option Addr} {sl30 : Array (Option Value)} {oc30 kV30 dc30 pm30 cd30 ct30 : Value}
    {f31 : Addr} {od31 an31 : Option Addr} {sl31 : Array (Option Value)} {oc31 kV31 dc31 pm31 cd31 ct31 : Value}
    {f32 : Addr} {od32 an32 : Option Addr} {sl32 : Array (Option Value)} {oc32 kV32 dc32 pm32 cd32 ct32 : Value}
    {tM : Tok}
    {C_Stuck : Addr}
    {C_NoPlace : Addr}
    {C_Twice : Addr}
    {C_TooMany : Addr}
    {C_Loose : Addr}
    {C_WalkError : Addr}
    {C_Lost : Addr}
    {C_NoNote : Addr}
    (a1 : PySem.W.nsIn K mainGlobals "checked" = some (some (.ref f1))) (l1 : K.lookup f1 = some ⟨oc1, od1, .func (PySem.W.fnOf "checked" "checked" (defArgs s_checked) (defBody s_checked) (defScope s_checked) .none kV1 dc1 pm1 an1 cd1 ct1), sl1⟩) (d1 : PySem.W.codeIn K cd1 "checked" = true) (k1 : PySem.W.keepIn K (.ref f1) = true)
    (a2 : PySem.W.nsIn K mainGlobals "made" = some (some (.ref f2))) (l2 : K.lookup f2 = some ⟨oc2, od2, .func (PySem.W.fnOf "made" "made" (defArgs s_made) (defBody s_made) (defScope s_made) .none kV2 dc2 pm2 an2 cd2 ct2), sl2⟩) (d2 : PySem.W.codeIn K cd2 "made" = true) (k2 : PySem.W.keepIn K (.ref f2) = true)
    (a3 : PySem.W.nsIn K mainGlobals "parts_of" = some (some (.ref f3))) (l3 : K.lookup f3 = some ⟨oc3, od3, .func (PySem.W.fnOf "parts_of" "parts_of" (defArgs s_parts_of) (defBody s_parts_of) (defScope s_parts_of) .none kV3 dc3 pm3 an3 cd3 ct3), sl3⟩) (d3 : PySem.W.codeIn K cd3 "parts_of" = true) (k3 : PySem.W.keepIn K (.ref f3) = true)
    (a4 : PySem.W.nsIn K mainGlobals "bound" = some (some (.ref f4))) (l4 : K.lookup f4 = some ⟨oc4, od4, .func (PySem.W.fnOf "bound" "bound" (defArgs s_bound18) (defBody s_bound18) (defScope s_bound18) .none kV4 dc4 pm4 an4 cd4 ct4), sl4⟩) (d4 : PySem.W.codeIn K cd4 "bound" = true) (k4 : PySem.W.keepIn K (.ref f4) = true)
    (a5 : PySem.W.nsIn K mainGlobals "step_holds" = some (some (.ref f5))) (l5 : K.lookup f5 = some ⟨oc5, od5, .func (PySem.W.fnOf "step_holds" "step_holds" (defArgs s_step_holds) (defBody s_step_holds) (defScope s_step_holds) .none kV5 dc5 pm5 an5 cd5 ct5), sl5⟩) (d5 : PySem.W.codeIn K cd5 "step_holds" = true) (k5 : PySem.W.keepIn K (.ref f5) = true)
    (a6 : PySem.W.nsIn K mainGlobals "closed" = some (some (.ref f6))) (l6 : K.lookup f6 = some ⟨oc6, od6, .func (PySem.W.fnOf "closed" "closed" (defArgs s_closed) (defBody s_closed) (defScope s_closed) .none kV6 dc6 pm6 an6 cd6 ct6), sl6⟩) (d6 : PySem.W.codeIn K cd6 "closed" = true) (k6 : PySem.W.keepIn K (.ref f6) = true)
    (a7 : PySem.W.nsIn K mainGlobals "where" = some (some (.ref f7))) (l7 : K.lookup f7 = some ⟨oc7, od7, .func (PySem.W.fnOf "where" "where" (defArgs s_where) (defBody s_where) (defScope s_where) .none kV7 dc7 pm7 an7 cd7 ct7), sl7⟩) (d7 : PySem.W.codeIn K cd7 "where" = true) (k7 : PySem.W.keepIn K (.ref f7) = true)
    (a8 : PySem.W.nsIn K mainGlobals "holds" = some (some (.ref f8))) (l8 : K.lookup f8 = some ⟨oc8, od8, .func (PySem.W.fnOf "holds" "holds" (defArgs s_holds18) (defBody s_holds18) (defScope s_holds18) .none kV8 dc8 pm8 an8 cd8 ct8), sl8⟩) (d8 : PySem.W.codeIn K cd8 "holds" = true) (k8 : PySem.W.keepIn K (.ref f8) = true)
    (a9 : PySem.W.nsIn K mainGlobals "binders" = some (some (.ref f9))) (l9 : K.lookup f9 = some ⟨oc9, od9, .func (PySem.W.fnOf "binders" "binders" (defArgs s_binders) (defBody s_binders) (defScope s_binders) .none kV9 dc9 pm9 an9 cd9 ct9), sl9⟩) (d9 : PySem.W.codeIn K cd9 "binders" = true) (k9 : PySem.W.keepIn K (.ref f9) = true)
    (a10 : PySem.W.nsIn K mainGlobals "lay" = some (some (.ref f10))) (l10 : K.lookup f10 = some ⟨oc10, od10, .func (PySem.W.fnOf "lay" "lay" (defArgs s_lay) (defBody s_lay) (defScope s_lay) .none kV10 dc10 pm10 an10 cd10 ct10), sl10⟩) (d10 : PySem.W.codeIn K cd10 "lay" = true) (k10 : PySem.W.keepIn K (.ref f10) = true)
    (a11 : PySem.W.nsIn K mainGlobals "crown_of" = some (some (.ref f11))) (l11 : K.lookup f11 = some ⟨oc11, od11, .func (PySem.W.fnOf "crown_of" "crown_of" (defArgs s_crown_of) (defBody s_crown_of) (defScope s_crown_of) .none kV11 dc11 pm11 an11 cd11 ct11), sl11⟩) (d11 : PySem.W.codeIn K cd11 "crown_of" = true) (k11 : PySem.W.keepIn K (.ref f11) = true)
    (a12 : PySem.W.nsIn K mainGlobals "row_of" = some (some (.ref f12))) (l12 : K.lookup f12 = some ⟨oc12, od12, .func (PySem.W.fnOf "row_of" "row_of" (defArgs s_row_of18) (defBody s_row_of18) (defScope s_row_of18) .none kV12 dc12 pm12 an12 cd12 ct12), sl12⟩) (d12 : PySem.W.codeIn K cd12 "row_of" = true) (k12 : PySem.W.keepIn K (.ref f12) = true)
    (a13 : PySem.W.nsIn K mainGlobals "wish_game" = some (some (.ref f13))) (l13 : K.lookup f13 = some ⟨oc13, od13, .func (PySem.W.fnOf "wish_game" "wish_game" (defArgs s_wish_game) (defBody s_wish_game) (defScope s_wish_game) .none kV13 dc13 pm13 an13 cd13 ct13), sl13⟩) (d13 : PySem.W.codeIn K cd13 "wish_game" = true) (k13 : PySem.W.keepIn K (.ref f13) = true)
    (a14 : PySem.W.nsIn K mainGlobals "_law_cell_at" = some (some (.ref f14))) (l14 : K.lookup f14 = some ⟨oc14, od14, .func (PySem.W.fnOf "_law_cell_at" "_law_cell_at" (defArgs s_law_cell_at) (defBody s_law_cell_at) (defScope s_law_cell_at) .none kV14 dc14 pm14 an14 cd14 ct14), sl14⟩) (d14 : PySem.W.codeIn K cd14 "_law_cell_at" = true) (k14 : PySem.W.keepIn K (.ref f14) = true)
    (a15 : PySem.W.nsIn K mainGlobals "_law_pick" = some (some (.ref f15))) (l15 : K.lookup f15 = some ⟨oc15, od15, .func (PySem.W.fnOf "_law_pick" "_law_pick" (defArgs s_law_pick) (defBody s_law_pick) (defScope s_law_pick) .none kV15 dc15 pm15 an15 cd15 ct15), sl15⟩) (d15 : PySem.W.codeIn K cd15 "_law_pick" = true) (k15 : PySem.W.keepIn K (.ref f15) = true)
    (a16 : PySem.W.nsIn K mainGlobals "_law_whole" = some (some (.ref f16))) (l16 : K.lookup f16 = some ⟨oc16, od16, .func (PySem.W.fnOf "_law_whole" "_law_whole" (defArgs s_law_whole) (defBody s_law_whole) (defScope s_law_whole) .none kV16 dc16 pm16 an16 cd16 ct16), sl16⟩) (d16 : PySem.W.codeIn K cd16 "_law_whole" = true) (k16 : PySem.W.keepIn K (.ref f16) = true)
    (a17 : PySem.W.nsIn K mainGlobals "_law_mix" = some (some (.ref f17))) (l17 : K.lookup f17 = some ⟨oc17, od17, .func (PySem.W.fnOf "_law_mix" "_law_mix" (defArgs s_law_mix) (defBody s_law_mix) (defScope s_law_mix) .none kV17 dc17 pm17 an17 cd17 ct17), sl17⟩) (d17 : PySem.W.codeIn K cd17 "_law_mix" = true) (k17 : PySem.W.keepIn K (.ref f17) = true)
    (a18 : PySem.W.nsIn K mainGlobals "_law_place" = some (some (.ref f18))) (l18 : K.lookup f18 = some ⟨oc18, od18, .func (PySem.W.fnOf "_law_place" "_law_place" (defArgs s_law_place) (defBody s_law_place) (defScope s_law_place) .none kV18 dc18 pm18 an18 cd18 ct18), sl18⟩) (d18 : PySem.W.codeIn K cd18 "_law_place" = true) (k18 : PySem.W.keepIn K (.ref f18) = true)
    (a19 : PySem.W.nsIn K mainGlobals "_law_game" = some (some (.ref f19))) (l19 : K.lookup f19 = some ⟨oc19, od19, .func (PySem.W.fnOf "_law_game" "_law_game" (defArgs s_law_game) (defBody s_law_game) (defScope s_law_game) .none kV19 dc19 pm19 an19 cd19 ct19), sl19⟩) (d19 : PySem.W.codeIn K cd19 "_law_game" = true) (k19 : PySem.W.keepIn K (.ref f19) = true)
    (a20 : PySem.W.nsIn K mainGlobals "_law_same" = some (some (.ref f20))) (l20 : K.lookup f20 = some ⟨oc20, od20, .func (PySem.W.fnOf "_law_same" "_law_same" (defArgs s_law_same) (defBody s_law_same) (defScope s_law_same) .none kV20 dc20 pm20 an20 cd20 ct20), sl20⟩) (d20 : PySem.W.codeIn K cd20 "_law_same" = true) (k20 : PySem.W.keepIn K (.ref f20) = true)
    (a21 : PySem.W.nsIn K mainGlobals "_law_refused" = some (some (.ref f21))) (l21 : K.lookup f21 = some ⟨oc21, od21, .func (PySem.W.fnOf "_law_refused" "_law_refused" (defArgs s_law_refused) (defBody s_law_refused) (defScope s_law_refused) .none kV21 dc21 pm21 an21 cd21 ct21), sl21⟩) (d21 : PySem.W.codeIn K cd21 "_law_refused" = true) (k21 : PySem.W.keepIn K (.ref f21) = true)
    (a22 : PySem.W.nsIn K mainGlobals "_law_told" = some (some (.ref f22))) (l22 : K.lookup f22 = some ⟨oc22, od22, .func (PySem.W.fnOf "_law_told" "_law_told" (defArgs s_law_told18) (defBody s_law_told18) (defScope s_law_told18) .none kV22 dc22 pm22 an22 cd22 ct22), sl22⟩) (d22 : PySem.W.codeIn K cd22 "_law_told" = true) (k22 : PySem.W.keepIn K (.ref f22) = true)
    (a23 : PySem.W.nsIn K mainGlobals "_law_spot" = some (some (.ref f23))) (l23 : K.lookup f23 = some ⟨oc23, od23, .func (PySem.W.fnOf "_law_spot" "_law_spot" (defArgs s_law_spot) (defBody s_law_spot) (defScope s_law_spot) .none kV23 dc23 pm23 an23 cd23 ct23), sl23⟩) (d23 : PySem.W.codeIn K cd23 "_law_spot" = true) (k23 : PySem.W.keepIn K (.ref f23) = true)
    (a24 : PySem.W.nsIn K mainGlobals "_law_wish" = some (some (.ref f24))) (l24 : K.lookup f24 = some ⟨oc24, od24, .func (PySem.W.fnOf "_law_wish" "_law_wish" (defArgs s_law_wish) (defBody s_law_wish) (defScope s_law_wish) .none kV24 dc24 pm24 an24 cd24 ct24), sl24⟩) (d24 : PySem.W.codeIn K cd24 "_law_wish" = true) (k24 : PySem.W.keepIn K (.ref f24) = true)
    (a25 : PySem.W.nsIn K mainGlobals "_law_parts" = some (some (.ref f25))) (l25 : K.lookup f25 = some ⟨oc25, od25, .func (PySem.W.fnOf "_law_parts" "_law_parts" (defArgs s_law_parts) (defBody s_law_parts) (defScope s_law_parts) .none kV25 dc25 pm25 an25 cd25 ct25), sl25⟩) (d25 : PySem.W.codeIn K cd25 "_law_parts" = true) (k25 : PySem.W.keepIn K (.ref f25) = true)
    (a26 : PySem.W.nsIn K mainGlobals "_law_signs" = some (some (.ref f26))) (l26 : K.lookup f26 = some ⟨oc26, od26, .func (PySem.W.fnOf "_law_signs" "_law_signs" (defArgs s_law_signs) (defBody s_law_signs) (defScope s_law_signs) .none kV26 dc26 pm26 an26 cd26 ct26), sl26⟩) (d26 : PySem.W.codeIn K cd26 "_law_signs" = true) (k26 : PySem.W.keepIn K (.ref f26) = true)
    (a27 : PySem.W.nsIn K mainGlobals "_law_binders" = some (some (.ref f27))) (l27 : K.lookup f27 = some ⟨oc27, od27, .func (PySem.W.fnOf "_law_binders" "_law_binders" (defArgs s_law_binders) (defBody s_law_binders) (defScope s_law_binders) .none kV27 dc27 pm27 an27 cd27 ct27), sl27⟩) (d27 : PySem.W.codeIn K cd27 "_law_binders" = true) (k27 : PySem.W.keepIn K (.ref f27) = true)
    (a28 : PySem.W.nsIn K mainGlobals "_law_lay" = some (some (.ref f28))) (l28 : K.lookup f28 = some ⟨oc28, od28, .func (PySem.W.fnOf "_law_lay" "_law_lay" (defArgs s_law_lay) (defBody s_law_lay) (defScope s_law_lay) .none kV28 dc28 pm28 an28 cd28 ct28), sl28⟩) (d28 : PySem.W.codeIn K cd28 "_law_lay" = true) (k28 : PySem.W.keepIn K (.ref f28) = true)
    (a29 : PySem.W.nsIn K mainGlobals "_law_crown" = some (some (.ref f29))) (l29 : K.lookup f29 = some ⟨oc29, od29, .func (PySem.W.fnOf "_law_crown" "_law_crown" (defArgs s_law_crown) (defBody s_law_crown) (defScope s_law_crown) .none kV29 dc29 pm29 an29 cd29 ct29), sl29⟩) (d29 : PySem.W.codeIn K cd29 "_law_crown" = true) (k29 : PySem.W.keepIn K (.ref f29) = true)
    (a30 : PySem.W.nsIn K mainGlobals "_law_rows_of" = some (some (.ref f30))) (l30 : K.lookup f30 = some ⟨oc30, od30, .func (PySem.W.fnOf "_law_rows_of" "_law_rows_of" (defArgs s_law_rows_of) (defBody s_law_rows_of) (defScope s_law_rows_of) .none kV30 dc30 pm30 an30 cd30 ct30), sl30⟩) (d30 : PySem.W.codeIn K cd30 "_law_rows_of" = true) (k30 : PySem.W.keepIn K (.ref f30) = true)
    (a31 : PySem.W.nsIn K mainGlobals "_law_loose" = some (some (.ref f31))) (l31 : K.lookup f31 = some ⟨oc31, od31, .func (PySem.W.fnOf "_law_loose" "_law_loose" (defArgs s_law_loose) (defBody s_law_loose) (defScope s_law_loose) .none kV31 dc31 pm31 an31 cd31 ct31), sl31⟩) (d31 : PySem.W.codeIn K cd31 "_law_loose" = true) (k31 : PySem.W.keepIn K (.ref f31) = true)
    (a32 : PySem.W.nsIn K mainGlobals "law" = some (some (.ref f32))) (l32 : K.lookup f32 = some ⟨oc32, od32, .func (PySem.W.fnOf "law" "law" (defArgs s_law_k18) (defBody s_law_k18) (defScope s_law_k18) .none kV32 dc32 pm32 an32 cd32 ct32), sl32⟩) (d32 : PySem.W.codeIn K cd32 "law" = true) (k32 : PySem.W.keepIn K (.ref f32) = true)
    (y_len : PySem.W.nsIn K mainGlobals "len" = some none)
    (y_set : PySem.W.nsIn K mainGlobals "set" = some none)
    (y_tuple : PySem.W.nsIn K mainGlobals "tuple" = some none)
    (y_sorted : PySem.W.nsIn K mainGlobals "sorted" = some none)
    (y_list : PySem.W.nsIn K mainGlobals "list" = some none)
    (y_all : PySem.W.nsIn K mainGlobals "all" = some none)
    (y_any : PySem.W.nsIn K mainGlobals "any" = some none)
    (y_dict : PySem.W.nsIn K mainGlobals "dict" = some none)
    (y_range : PySem.W.nsIn K mainGlobals "range" = some none)
    (y_sum : PySem.W.nsIn K mainGlobals "sum" = some none)
    (y_int : PySem.W.nsIn K mainGlobals "int" = some none)
    (y_isinstance : PySem.W.nsIn K mainGlobals "isinstance" = some none)
    (y_bool : PySem.W.nsIn K mainGlobals "bool" = some none)
    (y_ValueError : PySem.W.nsIn K mainGlobals "ValueError" = some none)
    (y_min : PySem.W.nsIn K mainGlobals "min" = some none)
    (y_MOST : PySem.W.nsIn K mainGlobals "MOST" = some (some (.int 24 tM)))
    (e_Stuck : PySem.W.nsIn K mainGlobals "Stuck" = some (some (.ref C_Stuck)))
    (e_NoPlace : PySem.W.nsIn K mainGlobals "NoPlace" = some (some (.ref C_NoPlace)))
    (e_Twice : PySem.W.nsIn K mainGlobals "Twice" = some (some (.ref C_Twice)))
    (e_TooMany : PySem.W.nsIn K mainGlobals "TooMany" = some (some (.ref C_TooMany)))
    (e_Loose : PySem.W.nsIn K mainGlobals "Loose" = some (some (.ref C_Loose)))
    (e_WalkError : PySem.W.nsIn K mainGlobals "WalkError" = some (some (.ref C_WalkError)))
    (e_Lost : PySem.W.nsIn K mainGlobals "Lost" = some (some (.ref C_Lost)))
    (e_NoNote : PySem.W.nsIn K mainGlobals "NoNote" = some (some (.ref C_NoNote)))
    (x_Stuck : PySem.W.excIn K C_Stuck [.type "ValueError", .type "Exception", .type "BaseException", .type "object"] "ValueError.__new__" = true)
    (kk_Stuck : PySem.W.keepIn K (.ref C_Stuck) = true)
    (b_Stuck : PySem.W.subIn K (.ref C_Stuck) (.type "BaseException") = some true)
    (t_Stuck : PySem.W.typeIn K (.ref C_Stuck) = some (.type "type"))
    (x_NoPlace : PySem.W.excIn K C_NoPlace [.type "ValueError", .type "Exception", .type "BaseException", .type "object"] "ValueError.__new__" = true)
    (kk_NoPlace : PySem.W.keepIn K (.ref C_NoPlace) = true)
    (b_NoPlace : PySem.W.subIn K (.ref C_NoPlace) (.type "BaseException") = some true)
    (t_NoPlace : PySem.W.typeIn K (.ref C_NoPlace) = some (.type "type"))
    (x_Twice : PySem.W.excIn K C_Twice [.type "ValueError", .type "Exception", .type "BaseException", .type "object"] "ValueError.__new__" = true)
    (kk_Twice : PySem.W.keepIn K (.ref C_Twice) = true)
    (b_Twice : PySem.W.subIn K (.ref C_Twice) (.type "BaseException") = some true)
    (t_Twice : PySem.W.typeIn K (.ref C_Twice) = some (.type "type"))
    (x_TooMany : PySem.W.excIn K C_TooMany [.type "ValueError", .type "Exception", .type "BaseException", .type "object"] "ValueError.__new__" = true)
    (kk_TooMany : PySem.W.keepIn K (.ref C_TooMany) = true)
    (b_TooMany : PySem.W.subIn K (.ref C_TooMany) (.type "BaseException") = some true)
    (t_TooMany : PySem.W.typeIn K (.ref C_TooMany) = some (.type "type"))
    (x_Loose : PySem.W.excIn K C_Loose [.type "ValueError", .type "Exception", .type "BaseException", .type "object"] "ValueError.__new__" = true)
    (kk_Loose : PySem.W.keepIn K (.ref C_Loose) = true)
    (b_Loose : PySem.W.subIn K (.ref C_Loose) (.type "BaseException") = some true)
    (t_Loose : PySem.W.typeIn K (.ref C_Loose) = some (.type "type"))
    (b_WalkError : PySem.W.subIn K (.ref C_WalkError) (.type "BaseException") = some true)
    (hd_WalkError : PySem.W.hasDictIn K C_WalkError = true)
    (t_WalkError : PySem.W.typeIn K (.ref C_WalkError) = some (.type "type"))
    (s_Loose_WalkError : PySem.W.subIn K (.ref C_Loose) (.ref C_WalkError) = some true)
    (s_TooMany_WalkError : PySem.W.subIn K (.ref C_TooMany) (.ref C_WalkError) = some true)
    (s_Stuck_WalkError : PySem.W.subIn K (.ref C_Stuck) (.ref C_WalkError) = some true)
    (s_NoPlace_WalkError : PySem.W.subIn K (.ref C_NoPlace) (.ref C_WalkError) = some true)
    (s_Twice_WalkError : PySem.W.subIn K (.ref C_Twice) (.ref C_WalkError) = some true)
    (n_get : PySem.W.specialIn K (.builtin "object.__class__") "__get__" = some (some (.builtin "getset_descriptor.__get__")))
    (n_takes : PySem.W.takesIn K (.builtin "object.__class__") = some true)
    (hg_Loose : PySem.W.findIn K (.ref C_Loose) "__getattribute__" = some (some (.builtin "BaseException.__getattribute__")))
    (hk_Loose : PySem.W.findIn K (.ref C_Loose) "__getattr__" = some none)
    (hd_Loose : PySem.W.hasDictIn K C_Loose = true)
    (ha_Loose : PySem.W.findIn K (.ref C_Loose) "__class__" = some (some (.builtin "object.__class__")))
    (hm_Loose : PySem.W.mroIn K C_Loose (.type "object") = some true)
    (kt_Loose_TooMany : PySem.W.kitOne K (.ref C_Loose) (.ref C_TooMany) = some false)
    (kt_Loose_Stuck : PySem.W.kitOne K (.ref C_Loose) (.ref C_Stuck) = some false)
    (kt_Loose_NoPlace : PySem.W.kitOne K (.ref C_Loose) (.ref C_NoPlace) = some false)
    (kt_Loose_Twice : PySem.W.kitOne K (.ref C_Loose) (.ref C_Twice) = some false)
    (kt_Loose_ValueError : PySem.W.kitOne K (.ref C_Loose) (.type "ValueError") = some true)
    (kt_Loose_Lost : PySem.W.kitOne K (.ref C_Loose) (.ref C_Lost) = some false)
    (kt_Loose_Loose : PySem.W.kitOne K (.ref C_Loose) (.ref C_Loose) = some true)
    (kt_Loose_NoNote : PySem.W.kitOne K (.ref C_Loose) (.ref C_NoNote) = some false)
    (hg_TooMany : PySem.W.findIn K (.ref C_TooMany) "__getattribute__" = some (some (.builtin "BaseException.__getattribute__")))
    (hk_TooMany : PySem.W.findIn K (.ref C_TooMany) "__getattr__" = some none)
    (hd_TooMany : PySem.W.hasDictIn K C_TooMany = true)
    (ha_TooMany : PySem.W.findIn K (.ref C_TooMany) "__class__" = some (some (.builtin "object.__class__")))
    (hm_TooMany : PySem.W.mroIn K C_TooMany (.type "object") = some true)
    (kt_TooMany_TooMany : PySem.W.kitOne K (.ref C_TooMany) (.ref C_TooMany) = some true)
    (kt_TooMany_Stuck : PySem.W.kitOne K (.ref C_TooMany) (.ref C_Stuck) = some false)
    (kt_TooMany_NoPlace : PySem.W.kitOne K (.ref C_TooMany) (.ref C_NoPlace) = some false)
    (kt_TooMany_Twice : PySem.W.kitOne K (.ref C_TooMany) (.ref C_Twice) = some false)
    (kt_TooMany_ValueError : PySem.W.kitOne K (.ref C_TooMany) (.type "ValueError") = some true)
    (kt_TooMany_Lost : PySem.W.kitOne K (.ref C_TooMany) (.ref C_Lost) = some false)
    (kt_TooMany_Loose : PySem.W.kitOne K (.ref C_TooMany) (.ref C_Loose) = some false)
    (kt_TooMany_NoNote : PySem.W.kitOne K (.ref C_TooMany) (.ref C_NoNote) = some false)
    (hg_Stuck : PySem.W.findIn K (.ref C_Stuck) "__getattribute__" = some (some (.builtin "BaseException.__getattribute__")))
    (hk_Stuck : PySem.W.findIn K (.ref C_Stuck) "__getattr__" = some none)
    (hd_Stuck : PySem.W.hasDictIn K C_Stuck = true)
    (ha_Stuck : PySem.W.findIn K (.ref C_Stuck) "__class__" = some (some (.builtin "object.__class__")))
    (hm_Stuck : PySem.W.mroIn K C_Stuck (.type "object") = some true)
    (kt_Stuck_TooMany : PySem.W.kitOne K (.ref C_Stuck) (.ref C_TooMany) = some false)
    (kt_Stuck_Stuck : PySem.W.kitOne K (.ref C_Stuck) (.ref C_Stuck) = some true)
    (kt_Stuck_NoPlace : PySem.W.kitOne K (.ref C_Stuck) (.ref C_NoPlace) = some false)
    (kt_Stuck_Twice : PySem.W.kitOne K (.ref C_Stuck) (.ref C_Twice) = some false)
    (kt_Stuck_ValueError : PySem.W.kitOne K (.ref C_Stuck) (.type "ValueError") = some true)
    (kt_Stuck_Lost : PySem.W.kitOne K (.ref C_Stuck) (.ref C_Lost) = some false)
    (kt_Stuck_Loose : PySem.W.kitOne K (.ref C_Stuck) (.ref C_Loose) = some false)
    (kt_Stuck_NoNote : PySem.W.kitOne K (.ref C_Stuck) (.ref C_NoNote) = some false)
    (hg_NoPlace : PySem.W.findIn K (.ref C_NoPlace) "__getattribute__" = some (some (.builtin "BaseException.__getattribute__")))
    (hk_NoPlace : PySem.W.findIn K (.ref C_NoPlace) "__getattr__" = some none)
    (hd_NoPlace : PySem.W.hasDictIn K C_NoPlace = true)
    (ha_NoPlace : PySem.W.findIn K (.ref C_NoPlace) "__class__" = some (some (.builtin "object.__class__")))
    (hm_NoPlace : PySem.W.mroIn K C_NoPlace (.type "object") = some true)
    (kt_NoPlace_TooMany : PySem.W.kitOne K (.ref C_NoPlace) (.ref C_TooMany) = some false)
    (kt_NoPlace_Stuck : PySem.W.kitOne K (.ref C_NoPlace) (.ref C_Stuck) = some false)
    (kt_NoPlace_NoPlace : PySem.W.kitOne K (.ref C_NoPlace) (.ref C_NoPlace) = some true)
    (kt_NoPlace_Twice : PySem.W.kitOne K (.ref C_NoPlace) (.ref C_Twice) = some false)
    (kt_NoPlace_ValueError : PySem.W.kitOne K (.ref C_NoPlace) (.type "ValueError") = some true)
    (kt_NoPlace_Lost : PySem.W.kitOne K (.ref C_NoPlace) (.ref C_Lost) = some false)
    (kt_NoPlace_Loose : PySem.W.kitOne K (.ref C_NoPlace) (.ref C_Loose) = some false)
    (kt_NoPlace_NoNote : PySem.W.kitOne K (.ref C_NoPlace) (.ref C_NoNote) = some false)
    (hg_Twice : PySem.W.findIn K (.ref C_Twice) "__getattribute__" = some (some (.builtin "BaseException.__getattribute__")))
    (hk_Twice : PySem.W.findIn K (.ref C_Twice) "__getattr__" = some none)
    (hd_Twice : PySem.W.hasDictIn K C_Twice = true)
    (ha_Twice : PySem.W.findIn K (.ref C_Twice) "__class__" = some (some (.builtin "object.__class__")))
    (hm_Twice : PySem.W.mroIn K C_Twice (.type "object") = some true)
    (kt_Twice_TooMany : PySem.W.kitOne K (.ref C_Twice) (.ref C_TooMany) = some false)
    (kt_Twice_Stuck : PySem.W.kitOne K (.ref C_Twice) (.ref C_Stuck) = some false)
    (kt_Twice_NoPlace : PySem.W.kitOne K (.ref C_Twice) (.ref C_NoPlace) = some false)
    (kt_Twice_Twice : PySem.W.kitOne K (.ref C_Twice) (.ref C_Twice) = some true)
    (kt_Twice_ValueError : PySem.W.kitOne K (.ref C_Twice) (.type "ValueError") = some true)
    (kt_Twice_Lost : PySem.W.kitOne K (.ref C_Twice) (.ref C_Lost) = some false)
    (kt_Twice_Loose : PySem.W.kitOne K (.ref C_Twice) (.ref C_Loose) = some false)
    (kt_Twice_NoNote : PySem.W.kitOne K (.ref C_Twice) (.ref C_NoNote) = some false)
    (s_Loose_Loose : PySem.W.subIn K (.ref C_Loose) (.ref C_Loose) = some true) :
    ∃ fd : FuncData, (∀ (s : Shared) (v : Value), BindsTo s fd ⟨[v], []⟩ [("script", v)]) ∧ ∀ base : Heap, K.In base → base.Ns mainGlobals mg → FnOk P w K mg base CX0 65 fa fd ["script"] (sp_law_k18 K w) := by
  have e := hfa.symm.trans (PySem.W.mg_of X G a32)
  cases e
  have F1 := fun_mk (st := s_checked) l1 d1 k1
  have b1 := F1.binds (ps := ["row", "many"]) fun _ _ _ _ _ _ us hl => match us, hl with | [_, _], _ => rfl
  have F2 := fun_mk (st := s_made) l2 d2 k2
  have b2 := F2.binds (ps := ["rows"]) fun _ _ _ _ _ _ us hl => match us, hl with | [_], _ => rfl
  have F3 := fun_mk (st := s_parts_of) l3 d3 k3
  have b3 := F3.binds (ps := ["wish"]) fun _ _ _ _ _ _ us hl => match us, hl with | [_], _ => rfl
  have F4 := fun_mk (st := s_bound18) l4 d4 k4
  have b4 := F4.binds (ps := ["wish", "names"]) fun _ _ _ _ _ _ us hl => match us, hl with | [_, _], _ => rfl
  have F5 := fun_mk (st := s_step_holds) l5 d5 k5
  have b5 := F5.binds (ps := ["kind", "marks", "ways"]) fun _ _ _ _ _ _ us hl => match us, hl with | [_, _, _], _ => rfl
  have F6 := fun_mk (st := s_closed) l6 d6 k6
  have b6 := F6.binds (ps := ["game", "wish", "meant"]) fun _ _ _ _ _ _ us hl => match us, hl with | [_, _, _], _ => rfl
  have F7 := fun_mk (st := s_where) l7 d7 k7
  have b7 := F7.binds (ps := ["game", "wish", "meant"]) fun _ _ _ _ _ _ us hl => match us, hl with | [_, _, _], _ => rfl
  have F8 := fun_mk (st := s_holds18) l8 d8 k8
  have b8 := F8.binds (ps := ["game", "wish"]) fun _ _ _ _ _ _ us hl => match us, hl with | [_, _], _ => rfl
  have F9 := fun_mk (st := s_binders) l9 d9 k9
  have b9 := F9.binds (ps := ["wish"]) fun _ _ _ _ _ _ us hl => match us, hl with | [_], _ => rfl
  have F10 := fun_mk (st := s_lay) l10 d10 k10
  have b10 := F10.binds (ps := ["wish", "names", "found"]) fun _ _ _ _ _ _ us hl => match us, hl with | [_, _, _], _ => rfl
  have F11 := fun_mk (st := s_crown_of) l11 d11 k11
  have b11 := F11.binds (ps := ["wish", "crown"]) fun _ _ _ _ _ _ us hl => match us, hl with | [_, _], _ => rfl
  have F12 := fun_mk (st := s_row_of18) l12 d12 k12
  have b12 := F12.binds (ps := ["place", "at", "sign", "many"]) fun _ _ _ _ _ _ us hl => match us, hl with | [_, _, _, _], _ => rfl
  have F13 := fun_mk (st := s_wish_game) l13 d13 k13
  have b13 := F13.binds (ps := ["game", "wish"]) fun _ _ _ _ _ _ us hl => match us, hl with | [_, _], _ => rfl
  have F14 := fun_mk (st := s_law_cell_at) l14 d14 k14
  have b14 := F14.binds (ps := ["script", "k"]) fun _ _ _ _ _ _ us hl => match us, hl with | [_, _], _ => rfl
  have F15 := fun_mk (st := s_law_pick) l15 d15 k15
  have b15 := F15.binds (ps := ["script", "k"]) fun _ _ _ _ _ _ us hl => match us, hl with | [_, _], _ => rfl
  have F16 := fun_mk (st := s_law_whole) l16 d16 k16
  have b16 := F16.binds (ps := ["x"]) fun _ _ _ _ _ _ us hl => match us, hl with | [_], _ => rfl
  have F17 := fun_mk (st := s_law_mix) l17 d17 k17
  have b17 := F17.binds (ps := ["cell", "k"]) fun _ _ _ _ _ _ us hl => match us, hl with | [_, _], _ => rfl
  have F18 := fun_mk (st := s_law_place) l18 d18 k18
  have b18 := F18.binds (ps := ["number", "many", "spread", "low"]) fun _ _ _ _ _ _ us hl => match us, hl with | [_, _, _, _], _ => rfl
  have F19 := fun_mk (st := s_law_game) l19 d19 k19
  have b19 := F19.binds (ps := ["script", "start", "many", "spread", "low"]) fun _ _ _ _ _ _ us hl => match us, hl with | [_, _, _, _, _], _ => rfl
  have F20 := fun_mk (st := s_law_same) l20 d20 k20
  have b20 := F20.binds (ps := ["found", "due"]) fun _ _ _ _ _ _ us hl => match us, hl with | [_, _], _ => rfl
  have F21 := fun_mk (st := s_law_refused) l21 d21 k21
  have b21 := F21.binds (ps := ["marks", "which"]) fun _ _ _ _ _ _ us hl => match us, hl with | [_, _], _ => rfl
  have F22 := fun_mk (st := s_law_told18) l22 d22 k22
  have b22 := F22.binds (ps := ["game", "wish"]) fun _ _ _ _ _ _ us hl => match us, hl with | [_, _], _ => rfl
  have F23 := fun_mk (st := s_law_spot) l23 d23 k23
  have b23 := F23.binds (ps := ["script", "spot"]) fun _ _ _ _ _ _ us hl => match us, hl with | [_, _], _ => rfl
  have F24 := fun_mk (st := s_law_wish) l24 d24 k24
  have b24 := F24.binds (ps := ["script", "spot", "names", "crowns", "deep"]) fun _ _ _ _ _ _ us hl => match us, hl with | [_, _, _, _, _], _ => rfl
  have F25 := fun_mk (st := s_law_parts) l25 d25 k25
  have b25 := F25.binds (ps := ["wish"]) fun _ _ _ _ _ _ us hl => match us, hl with | [_], _ => rfl
  have F26 := fun_mk (st := s_law_signs) l26 d26 k26
  have b26 := F26.binds (ps := ["wish"]) fun _ _ _ _ _ _ us hl => match us, hl with | [_], _ => rfl
  have F27 := fun_mk (st := s_law_binders) l27 d27 k27
  have b27 := F27.binds (ps := ["wish"]) fun _ _ _ _ _ _ us hl => match us, hl with | [_], _ => rfl
  have F28 := fun_mk (st := s_law_lay) l28 d28 k28
  have b28 := F28.binds (ps := ["wish", "names", "found"]) fun _ _ _ _ _ _ us hl => match us, hl with | [_, _, _], _ => rfl
  have F29 := fun_mk (st := s_law_crown) l29 d29 k29
  have b29 := F29.binds (ps := ["wish", "crown"]) fun _ _ _ _ _ _ us hl => match us, hl with | [_, _], _ => rfl
  have F30 := fun_mk (st := s_law_rows_of) l30 d30 k30
  have b30 := F30.binds (ps := ["game", "wish"]) fun _ _ _ _ _ _ us hl => match us, hl with | [_, _], _ => rfl
  have F31 := fun_mk (st := s_law_loose) l31 d31 k31
  have b31 := F31.binds (ps := ["game", "wish"]) fun _ _ _ _ _ _ us hl => match us, hl with | [_, _], _ => rfl
  have F32 := fun_mk (st := s_law_k18) l32 d32 k32
  have z_len := PySem.W.mg_none_of X G y_len
  have z_set := PySem.W.mg_none_of X G y_set
  have z_tuple := PySem.W.mg_none_of X G y_tuple
  have z_sorted := PySem.W.mg_none_of X G y_sorted
  have z_list := PySem.W.mg_none_of X G y_list
  have z_all := PySem.W.mg_none_of X G y_all
  have z_any := PySem.W.mg_none_of X G y_any
  have z_dict := PySem.W.mg_none_of X G y_dict
  have z_range := PySem.W.mg_none_of X G y_range
  have z_sum := PySem.W.mg_none_of X G y_sum
  have z_int := PySem.W.mg_none_of X G y_int
  have z_isinstance := PySem.W.mg_none_of X G y_isinstance
  have z_bool := PySem.W.mg_none_of X G y_bool
  have z_ValueError := PySem.W.mg_none_of X G y_ValueError
  have z_min := PySem.W.mg_none_of X G y_min
  have gl_MOST := PySem.W.mg_of X G y_MOST
  have gx_Stuck := PySem.W.mg_of X G e_Stuck
  have gx_NoPlace := PySem.W.mg_of X G e_NoPlace
  have gx_Twice := PySem.W.mg_of X G e_Twice
  have gx_TooMany := PySem.W.mg_of X G e_TooMany
  have gx_Loose := PySem.W.mg_of X G e_Loose
  have gx_WalkError := PySem.W.mg_of X G e_WalkError
  have gx_Lost := PySem.W.mg_of X G e_Lost
  have gx_NoNote := PySem.W.mg_of X G e_NoNote
  have ex_Stuck : ExK K mg "Stuck" C_Stuck := ⟨gx_Stuck, x_Stuck, kk_Stuck, b_Stuck, t_Stuck⟩
  have ex_NoPlace : ExK K mg "NoPlace" C_NoPlace := ⟨gx_NoPlace, x_NoPlace, kk_NoPlace, b_NoPlace, t_NoPlace⟩
  have ex_Twice : ExK K mg "Twice" C_Twice := ⟨gx_Twice, x_Twice, kk_Twice, b_Twice, t_Twice⟩
  have ex_TooMany : ExK K mg "TooMany" C_TooMany := ⟨gx_TooMany, x_TooMany, kk_TooMany, b_TooMany, t_TooMany⟩
  have ex_Loose : ExK K mg "Loose" C_Loose := ⟨gx_Loose, x_Loose, kk_Loose, b_Loose, t_Loose⟩
  have xm_WalkError : ∀ nm ∈ (["Loose", "TooMany", "Stuck", "NoPlace", "Twice"] : List Str), ∀ cv, mg nm = some cv → PySem.W.exmOne K cv (.ref C_WalkError) = some true := by
    intro nm hnm cv ec
    simp only [List.mem_cons, List.not_mem_nil, or_false] at hnm
    rcases hnm with rfl | rfl | rfl | rfl | rfl
    · have e := gx_Loose.symm.trans ec
      cases e
      exact PySem.W.exm_ref b_WalkError hd_WalkError t_WalkError s_Loose_WalkError
    · have e := gx_TooMany.symm.trans ec
      cases e
      exact PySem.W.exm_ref b_WalkError hd_WalkError t_WalkError s_TooMany_WalkError
    · have e := gx_Stuck.symm.trans ec
      cases e
      exact PySem.W.exm_ref b_WalkError hd_WalkError t_WalkError s_Stuck_WalkError
    · have e := gx_NoPlace.symm.trans ec
      cases e
      exact PySem.W.exm_ref b_WalkError hd_WalkError t_WalkError s_NoPlace_WalkError
    · have e := gx_Twice.symm.trans ec
      cases e
      exact PySem.W.exm_ref b_WalkError hd_WalkError t_WalkError s_Twice_WalkError
  have xi_WalkError : ∀ nm ∈ (["Loose", "TooMany", "Stuck", "NoPlace", "Twice"] : List Str), ∀ cv, mg nm = some cv → ∃ D, cv = .ref D ∧ ExcC K D ∧ PySem.W.kitOne K (.ref D) (.ref C_TooMany) = some (exSub nm "TooMany") ∧ PySem.W.kitOne K (.ref D) (.ref C_Stuck) = some (exSub nm "Stuck") ∧ PySem.W.kitOne K (.ref D) (.ref C_NoPlace) = some (exSub nm "NoPlace") ∧ PySem.W.kitOne K (.ref D) (.ref C_Twice) = some (exSub nm "Twice") ∧ PySem.W.kitOne K (.ref D) (.type "ValueError") = some (exSub nm "ValueError") ∧ PySem.W.kitOne K (.ref D) (.ref C_Lost) = some (exSub nm "Lost") ∧ PySem.W.kitOne K (.ref D) (.ref C_Loose) = some (exSub nm "Loose") ∧ PySem.W.kitOne K (.ref D) (.ref C_NoNote) = some (exSub nm "NoNote") := by
    intro nm hnm cv ec
    simp only [List.mem_cons, List.not_mem_nil, or_false] at hnm
    rcases hnm with rfl | rfl | rfl | rfl | rfl
    · have e := gx_Loose.symm.trans ec
      cases e
      exact ⟨_, rfl, ⟨hg_Loose, hk_Loose, b_Loose, hd_Loose, ha_Loose, n_get, n_takes, hm_Loose⟩, kt_Loose_TooMany.trans (by decide), kt_Loose_Stuck.trans (by decide), kt_Loose_NoPlace.trans (by decide), kt_Loose_Twice.trans (by decide), kt_Loose_ValueError.trans (by decide), kt_Loose_Lost.trans (by decide), kt_Loose_Loose.trans (by decide), kt_Loose_NoNote.trans (by decide)⟩
    · have e := gx_TooMany.symm.trans ec
      cases e
      exact ⟨_, rfl, ⟨hg_TooMany, hk_TooMany, b_TooMany, hd_TooMany, ha_TooMany, n_get, n_takes, hm_TooMany⟩, kt_TooMany_TooMany.trans (by decide), kt_TooMany_Stuck.trans (by decide), kt_TooMany_NoPlace.trans (by decide), kt_TooMany_Twice.trans (by decide), kt_TooMany_ValueError.trans (by decide), kt_TooMany_Lost.trans (by decide), kt_TooMany_Loose.trans (by decide), kt_TooMany_NoNote.trans (by decide)⟩
    · have e := gx_Stuck.symm.trans ec
      cases e
      exact ⟨_, rfl, ⟨hg_Stuck, hk_Stuck, b_Stuck, hd_Stuck, ha_Stuck, n_get, n_takes, hm_Stuck⟩, kt_Stuck_TooMany.trans (by decide), kt_Stuck_Stuck.trans (by decide), kt_Stuck_NoPlace.trans (by decide), kt_Stuck_Twice.trans (by decide), kt_Stuck_ValueError.trans (by decide), kt_Stuck_Lost.trans (by decide), kt_Stuck_Loose.trans (by decide), kt_Stuck_NoNote.trans (by decide)⟩
    · have e := gx_NoPlace.symm.trans ec
      cases e
      exact ⟨_, rfl, ⟨hg_NoPlace, hk_NoPlace, b_NoPlace, hd_NoPlace, ha_NoPlace, n_get, n_takes, hm_NoPlace⟩, kt_NoPlace_TooMany.trans (by decide), kt_NoPlace_Stuck.trans (by decide), kt_NoPlace_NoPlace.trans (by decide), kt_NoPlace_Twice.trans (by decide), kt_NoPlace_ValueError.trans (by decide), kt_NoPlace_Lost.trans (by decide), kt_NoPlace_Loose.trans (by decide), kt_NoPlace_NoNote.trans (by decide)⟩
    · have e := gx_Twice.symm.trans ec
      cases e
      exact ⟨_, rfl, ⟨hg_Twice, hk_Twice, b_Twice, hd_Twice, ha_Twice, n_get, n_takes, hm_Twice⟩, kt_Twice_TooMany.trans (by decide), kt_Twice_Stuck.trans (by decide), kt_Twice_NoPlace.trans (by decide), kt_Twice_Twice.trans (by decide), kt_Twice_ValueError.trans (by decide), kt_Twice_Lost.trans (by decide), kt_Twice_Loose.trans (by decide), kt_Twice_NoNote.trans (by decide)⟩
  have xm_Loose : ∀ nm ∈ (["Loose"] : List Str), ∀ cv, mg nm = some cv → PySem.W.exmOne K cv (.ref C_Loose) = some true := by
    intro nm hnm cv ec
    simp only [List.mem_cons, List.not_mem_nil, or_false] at hnm
    rcases hnm with rfl
    · have e := gx_Loose.symm.trans ec
      cases e
      exact PySem.W.exm_ref b_Loose hd_Loose t_Loose s_Loose_Loose
  refine ⟨PySem.W.fnOf "law" "law" (defArgs s_law_k18) (defBody s_law_k18) (defScope s_law_k18) .none kV32 dc32 pm32 an32 cd32 ct32, fun s v => .of_eq rfl, fun base _ _ => ?_⟩
  have C_checked : CalX P w K mg base 1 "checked" ["row", "many"] (sp_checked K w mg) := ⟨f1, _, ok_checked F1 z_len z_set ex_Stuck ex_NoPlace ex_Twice, PySem.W.mg_of X G a1, k1, b1⟩
  have C_made : CalX P w K mg base 2 "made" ["rows"] (sp_made K w mg) := ⟨f2, _, ok_made F2 C_checked z_len z_tuple z_sorted gl_MOST ex_TooMany, PySem.W.mg_of X G a2, k2, b2⟩
  have C_parts_of : Cal P w K mg base 1 "parts_of" ["wish"] (sp_parts_of K w) := ⟨f3, _, ok_parts_of F3 z_list, PySem.W.mg_of X G a3, k3, b3⟩
  have R_bound18 : ∀ d, CalX P w K mg base (2 + d) "bound" ["wish", "names"] (sp_bound18 d K w mg) := fun d => by
    induction d with
    | zero => exact ⟨f4, _, fn_noneX fun _ => rfl, PySem.W.mg_of X G a4, k4, b4⟩
    | succ d ih =>
      exact ⟨f4, _, ok_bound18 F4 (Nat.le_trans (by decide) (Nat.le_add_right _ _)) C_parts_of ih ex_Loose, PySem.W.mg_of X G a4, k4, b4⟩
  have C_bound18 := R_bound18 30
  have C_step_holds : Cal P w K mg base 1 "step_holds" ["kind", "marks", "ways"] (sp_step_holds K w) := ⟨f5, _, ok_step_holds F5 z_all z_any, PySem.W.mg_of X G a5, k5, b5⟩
  have R_where : ∀ d, Cal P w K mg base (2 + 2 * d) "where" ["game", "wish", "meant"] (sp_where d K w) := fun d => by
    induction d with
    | zero => exact ⟨f7, _, fn_none fun _ => rfl, PySem.W.mg_of X G a7, k7, b7⟩
    | succ d ih =>
      have H_closed : Cal P w K mg base (2 + 2 * d + 1) "closed" ["game", "wish", "meant"] (sp_closed d K w) := ⟨f6, _, ok_closed F6 (Nat.le_trans (by decide) (Nat.le_add_right _ _)) ih z_dict, PySem.W.mg_of X G a6, k6, b6⟩
      exact ⟨f7, _, ok_where F7 (Nat.le_trans (by decide) (Nat.le_add_right _ _)) H_closed ih C_step_holds z_range z_len, PySem.W.mg_of X G a7, k7, b7⟩
  have C_where := R_where 30
  have C_holds18 : CalX P w K mg base 63 "holds" ["game", "wish"] (sp_holds18 K w mg) := ⟨f8, _, ok_holds18 F8 C_bound18 C_where z_list, PySem.W.mg_of X G a8, k8, b8⟩
  have R_binders : ∀ d, Cal P w K mg base (2 + d) "binders" ["wish"] (sp_binders d K w) := fun d => by
    induction d with
    | zero => exact ⟨f9, _, fn_none fun _ => rfl, PySem.W.mg_of X G a9, k9, b9⟩
    | succ d ih =>
      exact ⟨f9, _, ok_binders F9 (Nat.le_trans (by decide) (Nat.le_add_right _ _)) C_parts_of ih z_sum z_int, PySem.W.mg_of X G a9, k9, b9⟩
  have C_binders := R_binders 30
  have R_lay : ∀ d, Cal P w K mg base (2 + d) "lay" ["wish", "names", "found"] (sp_lay d K w) := fun d => by
    induction d with
    | zero => exact ⟨f10, _, fn_noneO fun _ _ => rfl, PySem.W.mg_of X G a10, k10, b10⟩
    | succ d ih =>
      exact ⟨f10, _, ok_lay F10 (Nat.le_trans (by decide) (Nat.le_add_right _ _)) C_parts_of ih z_len z_dict, PySem.W.mg_of X G a10, k10, b10⟩
  have C_lay := R_lay 30
  have C_crown_of : Cal P w K mg base 33 "crown_of" ["wish", "crown"] (sp_crown_of K w) := ⟨f11, _, ok_crown_of F11 C_binders z_int, PySem.W.mg_of X G a11, k11, b11⟩
  have C_row_of18 : Cal P w K mg base 34 "row_of" ["place", "at", "sign", "many"] (sp_row_of18 K w) := ⟨f12, _, ok_row_of18 F12 C_crown_of z_list z_int, PySem.W.mg_of X G a12, k12, b12⟩
  have C_wish_game : CalX P w K mg base 35 "wish_game" ["game", "wish"] (sp_wish_game K w mg) := ⟨f13, _, ok_wish_game F13 C_bound18 C_lay C_row_of18 C_made z_len z_range gl_MOST ex_TooMany, PySem.W.mg_of X G a13, k13, b13⟩
  have C_law_cell_at : Cal P w K mg base 1 "_law_cell_at" ["script", "k"] (sp_law_cell_at K w) := ⟨f14, _, ok_law_cell_at F14 z_len, PySem.W.mg_of X G a14, k14, b14⟩
  have C_law_pick : Cal P w K mg base 2 "_law_pick" ["script", "k"] (sp_law_pick K w) := ⟨f15, _, ok_law_pick F15 C_law_cell_at z_len, PySem.W.mg_of X G a15, k15, b15⟩
  have C_law_whole : Cal P w K mg base 1 "_law_whole" ["x"] (sp_law_whole K w) := ⟨f16, _, ok_law_whole F16 z_isinstance z_int z_bool, PySem.W.mg_of X G a16, k16, b16⟩
  have C_law_mix : Cal P w K mg base 1 "_law_mix" ["cell", "k"] (sp_law_mix K w) := ⟨f17, _, ok_law_mix F17 , PySem.W.mg_of X G a17, k17, b17⟩
  have C_law_place : Cal P w K mg base 1 "_law_place" ["number", "many", "spread", "low"] (sp_law_place K w) := ⟨f18, _, ok_law_place F18 z_range z_sorted z_set z_tuple, PySem.W.mg_of X G a18, k18, b18⟩
  have C_law_game : Cal P w K mg base 3 "_law_game" ["script", "start", "many", "spread", "low"] (sp_law_game K w) := ⟨f19, _, ok_law_game F19 C_law_place C_law_mix C_law_pick z_range z_tuple, PySem.W.mg_of X G a19, k19, b19⟩
  have C_law_same : Cal P w K mg base 2 "_law_same" ["found", "due"] (sp_law_same K w) := ⟨f20, _, ok_law_same F20 C_law_whole z_isinstance z_tuple z_len z_range, PySem.W.mg_of X G a20, k20, b20⟩
  have C_law_refused : Cal P w K mg base 1 "_law_refused" ["marks", "which"] (sp_law_refused K w) := ⟨f21, _, ok_law_refused F21 z_range, PySem.W.mg_of X G a21, k21, b21⟩
  have C_law_told18 : Cal P w K mg base 36 "_law_told" ["game", "wish"] (sp_law_told18 K w) := ⟨f22, _, ok_law_told18 F22 C_wish_game z_isinstance z_ValueError gx_WalkError gx_TooMany gx_Stuck gx_NoPlace gx_Twice gx_Lost gx_Loose gx_NoNote xm_WalkError xi_WalkError, PySem.W.mg_of X G a22, k22, b22⟩
  have C_law_spot : Cal P w K mg base 3 "_law_spot" ["script", "spot"] (sp_law_spot K w) := ⟨f23, _, ok_law_spot F23 C_law_pick, PySem.W.mg_of X G a23, k23, b23⟩
  have R_law_wish : ∀ d, Cal P w K mg base (4 + d) "_law_wish" ["script", "spot", "names", "crowns", "deep"] (sp_law_wish d K w) := fun d => by
    induction d with
    | zero => exact ⟨f24, _, fn_noneM fun _ _ => rfl, PySem.W.mg_of X G a24, k24, b24⟩
    | succ d ih =>
      exact ⟨f24, _, ok_law_wish F24 (Nat.le_trans (by decide) (Nat.le_add_right _ _)) C_law_mix C_law_spot ih z_len z_int, PySem.W.mg_of X G a24, k24, b24⟩
  have C_law_wish := R_law_wish 5
  have C_law_parts : Cal P w K mg base 1 "_law_parts" ["wish"] (sp_law_parts K w) := ⟨f25, _, ok_law_parts F25 z_list, PySem.W.mg_of X G a25, k25, b25⟩
  have R_law_signs : ∀ d, Cal P w K mg base (2 + d) "_law_signs" ["wish"] (sp_law_signs d K w) := fun d => by
    induction d with
    | zero => exact ⟨f26, _, fn_none fun _ => rfl, PySem.W.mg_of X G a26, k26, b26⟩
    | succ d ih =>
      exact ⟨f26, _, ok_law_signs F26 (Nat.le_trans (by decide) (Nat.le_add_right _ _)) C_law_parts ih z_sum, PySem.W.mg_of X G a26, k26, b26⟩
  have C_law_signs := R_law_signs 30
  have R_law_binders : ∀ d, Cal P w K mg base (2 + d) "_law_binders" ["wish"] (sp_law_binders d K w) := fun d => by
    induction d with
    | zero => exact ⟨f27, _, fn_none fun _ => rfl, PySem.W.mg_of X G a27, k27, b27⟩
    | succ d ih =>
      exact ⟨f27, _, ok_law_binders F27 (Nat.le_trans (by decide) (Nat.le_add_right _ _)) C_law_parts ih z_int, PySem.W.mg_of X G a27, k27, b27⟩
  have C_law_binders := R_law_binders 30
  have R_law_lay : ∀ d, Cal P w K mg base (2 + d) "_law_lay" ["wish", "names", "found"] (sp_law_lay d K w) := fun d => by
    induction d with
    | zero => exact ⟨f28, _, fn_noneO fun _ _ => rfl, PySem.W.mg_of X G a28, k28, b28⟩
    | succ d ih =>
      exact ⟨f28, _, ok_law_lay F28 (Nat.le_trans (by decide) (Nat.le_add_right _ _)) C_law_parts ih z_len, PySem.W.mg_of X G a28, k28, b28⟩
  have C_law_lay := R_law_lay 30
  have C_law_crown : Cal P w K mg base 33 "_law_crown" ["wish", "crown"] (sp_law_crown K w) := ⟨f29, _, ok_law_crown F29 C_law_binders z_int, PySem.W.mg_of X G a29, k29, b29⟩
  have C_law_rows_of : Cal P w K mg base 34 "_law_rows_of" ["game", "wish"] (sp_law_rows_of K w) := ⟨f30, _, ok_law_rows_of F30 C_law_lay C_law_crown z_range z_len z_list z_int z_tuple, PySem.W.mg_of X G a30, k30, b30⟩
  have C_law_loose : Cal P w K mg base 64 "_law_loose" ["game", "wish"] (sp_law_loose K w) := ⟨f31, _, ok_law_loose F31 C_holds18 gx_Loose xm_Loose, PySem.W.mg_of X G a31, k31, b31⟩
  exact ok_law_k18 F32 C_law_cell_at C_law_game C_law_wish C_law_signs C_law_refused C_law_told18 C_law_loose C_law_same C_law_rows_of z_range z_min
theorem only_nolk {H : Hp} (h : Only H) : NoLk H := fun a o u d e => by
  rcases h a with z | ⟨o', xs, z⟩
  · rw [z] at e; cases e
  · rw [z] at e; cases e; exact d
theorem walk_law {l : PySem.W.OpenLaw} {q : Program} {loose : List Str} {XP : (Str → Option Value) → Heap → Prop} {YP : World → Heap → Prop} {d : DefRec} {K : Params → PySem.W.Frag} (hn : l.most = some 63) (hdf : d.params.defaults = [])
    (hY : ∀ (w : World) (h : Heap), YP w h → (K w.params).In h)
    (F : ∀ (w : World) (mg : Str → Option Value) (fa : Addr) (h : Heap), (K w.params).In h → h.Ns mainGlobals mg → mg d.name = some (.ref fa) →
      ∃ fd : FuncData, (∀ (s : Shared) (u : Value), BindsTo s fd ⟨[u], []⟩ [("script", u)]) ∧ ∀ base : Heap, (K w.params).In base → base.Ns mainGlobals mg → FnOk l.prog w (K w.params) mg base CX0 65 fa fd ["script"] (sp_law_k18 (K w.params) w)) :
    PySem.W.WalkO q loose XP YP l.row.toRowW d [] (fun f vs => PySem.call f vs) :=
  L2.walk_of (n := 63) (k := 65) (x := "script") (CX := fun _ => CX0) (sp := fun w => sp_law_k18 (K w.params) w) hn (by decide) hdf ⟨rfl, by decide, by decide⟩ hY F
    (fun _ H a ns hl hO hS => ⟨(ns, ()), H, true, fun _ _ h => .inl h, fun _ => only_nolk hO, .cons ⟨a, rfl, hS⟩ .nil, law_k18_true ns hl, fun _ _ _ _ r => r⟩) fun _ _ _ _ _ z => z
end Cw
open PySem PySem.W PyProof.Rows
set_option maxRecDepth 100000 in
set_option maxHeartbeats 0 in
theorem PySem.Challenge.cw_crownwalk_k18_wish_game_holds : PySem.Challenge.rw_crownwalk_k18_wish_game.Holds := by
  w_on; o_law; k_head; (case hw => w_witness2)
  k_fill
  refine Cw.walk_law (l := PySem.Challenge.rw_crownwalk_k18_wish_game) rfl rfl (fun w h Y => PySem.W.kIn_of Y) ?F
  case F =>
    intro w mg fa h KX G hmg
    refine' Cw.mk_all KX G hmg ?a1 ?l1 ?d1 ?k1 ?a2 ?l2 ?d2 ?k2 ?a3 ?l3 ?d3 ?k3 ?a4 ?l4 ?d4 ?k4 ?a5 ?l5 ?d5 ?k5 ?a6 ?l6 ?d6 ?k6 ?a7 ?l7 ?d7 ?k7 ?a8 ?l8 ?d8 ?k8 ?a9 ?l9 ?d9 ?k9 ?a10 ?l10 ?d10 ?k10 ?a11 ?l11 ?d11 ?k11 ?a12 ?l12 ?d12 ?k12 ?a13 ?l13 ?d13 ?k13 ?a14 ?l14 ?d14 ?k14 ?a15 ?l15 ?d15 ?k15 ?a16 ?l16 ?d16 ?k16 ?a17 ?l17 ?d17 ?k17 ?a18 ?l18 ?d18 ?k18 ?a19 ?l19 ?d19 ?k19 ?a20 ?l20 ?d20 ?k20 ?a21 ?l21 ?d21 ?k21 ?a22 ?l22 ?d22 ?k22 ?a23 ?l23 ?d23 ?k23 ?a24 ?l24 ?d24 ?k24 ?a25 ?l25 ?d25 ?k25 ?a26 ?l26 ?d26 ?k26 ?a27 ?l27 ?d27 ?k27 ?a28 ?l28 ?d28 ?k28 ?a29 ?l29 ?d29 ?k29 ?a30 ?l30 ?d30 ?k30 ?a31 ?l31 ?d31 ?k31 ?a32 ?l32 ?d32 ?k32 ?y_len ?y_set ?y_tuple ?y_sorted ?y_list ?y_all ?y_any ?y_dict ?y_range ?y_sum ?y_int ?y_isinstance ?y_bool ?y_ValueError ?y_min ?y_MOST ?e_Stuck ?e_NoPlace ?e_Twice ?e_TooMany ?e_Loose ?e_WalkError ?e_Lost ?e_NoNote ?x_Stuck ?kk_Stuck ?b_Stuck ?t_Stuck ?x_NoPlace ?kk_NoPlace ?b_NoPlace ?t_NoPlace ?x_Twice ?kk_Twice ?b_Twice ?t_Twice ?x_TooMany ?kk_TooMany ?b_TooMany ?t_TooMany ?x_Loose ?kk_Loose ?b_Loose ?t_Loose ?b_WalkError ?hd_WalkError ?t_WalkError ?s_Loose_WalkError ?s_TooMany_WalkError ?s_Stuck_WalkError ?s_NoPlace_WalkError ?s_Twice_WalkError ?n_get ?n_takes ?hg_Loose ?hk_Loose ?hd_Loose ?ha_Loose ?hm_Loose ?kt_Loose_TooMany ?kt_Loose_Stuck ?kt_Loose_NoPlace ?kt_Loose_Twice ?kt_Loose_ValueError ?kt_Loose_Lost ?kt_Loose_Loose ?kt_Loose_NoNote ?hg_TooMany ?hk_TooMany ?hd_TooMany ?ha_TooMany ?hm_TooMany ?kt_TooMany_TooMany ?kt_TooMany_Stuck ?kt_TooMany_NoPlace ?kt_TooMany_Twice ?kt_TooMany_ValueError ?kt_TooMany_Lost ?kt_TooMany_Loose ?kt_TooMany_NoNote ?hg_Stuck ?hk_Stuck ?hd_Stuck ?ha_Stuck ?hm_Stuck ?kt_Stuck_TooMany ?kt_Stuck_Stuck ?kt_Stuck_NoPlace ?kt_Stuck_Twice ?kt_Stuck_ValueError ?kt_Stuck_Lost ?kt_Stuck_Loose ?kt_Stuck_NoNote ?hg_NoPlace ?hk_NoPlace ?hd_NoPlace ?ha_NoPlace ?hm_NoPlace ?kt_NoPlace_TooMany ?kt_NoPlace_Stuck ?kt_NoPlace_NoPlace ?kt_NoPlace_Twice ?kt_NoPlace_ValueError ?kt_NoPlace_Lost ?kt_NoPlace_Loose ?kt_NoPlace_NoNote ?hg_Twice ?hk_Twice ?hd_Twice ?ha_Twice ?hm_Twice ?kt_Twice_TooMany ?kt_Twice_Stuck ?kt_Twice_NoPlace ?kt_Twice_Twice ?kt_Twice_ValueError ?kt_Twice_Lost ?kt_Twice_Loose ?kt_Twice_NoNote ?s_Loose_Loose
    (case a1 => k_is)
    (case l1 => k_is)
    (case d1 => k_is)
    (case k1 => k_is)
    (case a2 => k_is)
    (case l2 => k_is)
    (case d2 => k_is)
    (case k2 => k_is)
    (case a3 => k_is)
    (case l3 => k_is)
    (case d3 => k_is)
    (case k3 => k_is)
    (case a4 => k_is)
    (case l4 => k_is)
    (case d4 => k_is)
    (case k4 => k_is)
    (case a5 => k_is)
    (case l5 => k_is)
    (case d5 => k_is)
    (case k5 => k_is)
    (case a6 => k_is)
    (case l6 => k_is)
    (case d6 => k_is)
    (case k6 => k_is)
    (case a7 => k_is)
    (case l7 => k_is)
    (case d7 => k_is)
    (case k7 => k_is)
    (case a8 => k_is)
    (case l8 => k_is)
    (case d8 => k_is)
    (case k8 => k_is)
    (case a9 => k_is)
    (case l9 => k_is)
    (case d9 => k_is)
    (case k9 => k_is)
    (case a10 => k_is)
    (case l10 => k_is)
    (case d10 => k_is)
    (case k10 => k_is)
    (case a11 => k_is)
    (case l11 => k_is)
    (case d11 => k_is)
    (case k11 => k_is)
    (case a12 => k_is)
    (case l12 => k_is)
    (case d12 => k_is)
    (case k12 => k_is)
    (case a13 => k_is)
    (case l13 => k_is)
    (case d13 => k_is)
    (case k13 => k_is)
    (case a14 => k_is)
    (case l14 => k_is)
    (case d14 => k_is)
    (case k14 => k_is)
    (case a15 => k_is)
    (case l15 => k_is)
    (case d15 => k_is)
    (case k15 => k_is)
    (case a16 => k_is)
    (case l16 => k_is)
    (case d16 => k_is)
    (case k16 => k_is)
    (case a17 => k_is)
    (case l17 => k_is)
    (case d17 => k_is)
    (case k17 => k_is)
    (case a18 => k_is)
    (case l18 => k_is)
    (case d18 => k_is)
    (case k18 => k_is)
    (case a19 => k_is)
    (case l19 => k_is)
    (case d19 => k_is)
    (case k19 => k_is)
    (case a20 => k_is)
    (case l20 => k_is)
    (case d20 => k_is)
    (case k20 => k_is)
    (case a21 => k_is)
    (case l21 => k_is)
    (case d21 => k_is)
    (case k21 => k_is)
    (case a22 => k_is)
    (case l22 => k_is)
    (case d22 => k_is)
    (case k22 => k_is)
    (case a23 => k_is)
    (case l23 => k_is)
    (case d23 => k_is)
    (case k23 => k_is)
    (case a24 => k_is)
    (case l24 => k_is)
    (case d24 => k_is)
    (case k24 => k_is)
    (case a25 => k_is)
    (case l25 => k_is)
    (case d25 => k_is)
    (case k25 => k_is)
    (case a26 => k_is)
    (case l26 => k_is)
    (case d26 => k_is)
    (case k26 => k_is)
    (case a27 => k_is)
    (case l27 => k_is)
    (case d27 => k_is)
    (case k27 => k_is)
    (case a28 => k_is)
    (case l28 => k_is)
    (case d28 => k_is)
    (case k28 => k_is)
    (case a29 => k_is)
    (case l29 => k_is)
    (case d29 => k_is)
    (case k29 => k_is)
    (case a30 => k_is)
    (case l30 => k_is)
    (case d30 => k_is)
    (case k30 => k_is)
    (case a31 => k_is)
    (case l31 => k_is)
    (case d31 => k_is)
    (case k31 => k_is)
    (case a32 => k_is)
    (case l32 => k_is)
    (case d32 => k_is)
    (case k32 => k_is)
    (case y_len => k_is)
    (case y_set => k_is)
    (case y_tuple => k_is)
    (case y_sorted => k_is)
    (case y_list => k_is)
    (case y_all => k_is)
    (case y_any => k_is)
    (case y_dict => k_is)
    (case y_range => k_is)
    (case y_sum => k_is)
    (case y_int => k_is)
    (case y_isinstance => k_is)
    (case y_bool => k_is)
    (case y_ValueError => k_is)
    (case y_min => k_is)
    (case y_MOST => k_is)
    (case e_Stuck => k_is)
    (case e_NoPlace => k_is)
    (case e_Twice => k_is)
    (case e_TooMany => k_is)
    (case e_Loose => k_is)
    (case e_WalkError => k_is)
    (case e_Lost => k_is)
    (case e_NoNote => k_is)
    (case x_Stuck => k_exc)
    (case kk_Stuck => k_is)
    (case b_Stuck => k_is)
    (case t_Stuck => k_is)
    (case x_NoPlace => k_exc)
    (case kk_NoPlace => k_is)
    (case b_NoPlace => k_is)
    (case t_NoPlace => k_is)
    (case x_Twice => k_exc)
    (case kk_Twice => k_is)
    (case b_Twice => k_is)
    (case t_Twice => k_is)
    (case x_TooMany => k_exc)
    (case kk_TooMany => k_is)
    (case b_TooMany => k_is)
    (case t_TooMany => k_is)
    (case x_Loose => k_exc)
    (case kk_Loose => k_is)
    (case b_Loose => k_is)
    (case t_Loose => k_is)
    (case b_WalkError => k_is)
    (case hd_WalkError => k_is)
    (case t_WalkError => k_is)
    (case s_Loose_WalkError => first | k_is | rfl)
    (case s_TooMany_WalkError => first | k_is | rfl)
    (case s_Stuck_WalkError => first | k_is | rfl)
    (case s_NoPlace_WalkError => first | k_is | rfl)
    (case s_Twice_WalkError => first | k_is | rfl)
    (case n_get => k_is)
    (case n_takes => k_is)
    (case hg_Loose => k_is)
    (case hk_Loose => k_is)
    (case hd_Loose => k_is)
    (case ha_Loose => k_is)
    (case hm_Loose => k_is)
    (case kt_Loose_TooMany => first | k_is | rfl)
    (case kt_Loose_Stuck => first | k_is | rfl)
    (case kt_Loose_NoPlace => first | k_is | rfl)
    (case kt_Loose_Twice => first | k_is | rfl)
    (case kt_Loose_ValueError => first | k_is | rfl)
    (case kt_Loose_Lost => first | k_is | rfl)
    (case kt_Loose_Loose => first | k_is | rfl)
    (case kt_Loose_NoNote => first | k_is | rfl)
    (case hg_TooMany => k_is)
    (case hk_TooMany => k_is)
    (case hd_TooMany => k_is)
    (case ha_TooMany => k_is)
    (case hm_TooMany => k_is)
    (case kt_TooMany_TooMany => first | k_is | rfl)
    (case kt_TooMany_Stuck => first | k_is | rfl)
    (case kt_TooMany_NoPlace => first | k_is | rfl)
    (case kt_TooMany_Twice => first | k_is | rfl)
    (case kt_TooMany_ValueError => first | k_is | rfl)
    (case kt_TooMany_Lost => first | k_is | rfl)
    (case kt_TooMany_Loose => first | k_is | rfl)
    (case kt_TooMany_NoNote => first | k_is | rfl)
    (case hg_Stuck => k_is)
    (case hk_Stuck => k_is)
    (case hd_Stuck => k_is)
    (case ha_Stuck => k_is)
    (case hm_Stuck => k_is)
    (case kt_Stuck_TooMany => first | k_is | rfl)
    (case kt_Stuck_Stuck => first | k_is | rfl)
    (case kt_Stuck_NoPlace => first | k_is | rfl)
    (case kt_Stuck_Twice => first | k_is | rfl)
    (case kt_Stuck_ValueError => first | k_is | rfl)
    (case kt_Stuck_Lost => first | k_is | rfl)
    (case kt_Stuck_Loose => first | k_is | rfl)
    (case kt_Stuck_NoNote => first | k_is | rfl)
    (case hg_NoPlace => k_is)
    (case hk_NoPlace => k_is)
    (case hd_NoPlace => k_is)
    (case ha_NoPlace => k_is)
    (case hm_NoPlace => k_is)
    (case kt_NoPlace_TooMany => first | k_is | rfl)
    (case kt_NoPlace_Stuck => first | k_is | rfl)
    (case kt_NoPlace_NoPlace => first | k_is | rfl)
    (case kt_NoPlace_Twice => first | k_is | rfl)
    (case kt_NoPlace_ValueError => first | k_is | rfl)
    (case kt_NoPlace_Lost => first | k_is | rfl)
    (case kt_NoPlace_Loose => first | k_is | rfl)
    (case kt_NoPlace_NoNote => first | k_is | rfl)
    (case hg_Twice => k_is)
    (case hk_Twice => k_is)
    (case hd_Twice => k_is)
    (case ha_Twice => k_is)
    (case hm_Twice => k_is)
    (case kt_Twice_TooMany => first | k_is | rfl)
    (case kt_Twice_Stuck => first | k_is | rfl)
    (case kt_Twice_NoPlace => first | k_is | rfl)
    (case kt_Twice_Twice => first | k_is | rfl)
    (case kt_Twice_ValueError => first | k_is | rfl)
    (case kt_Twice_Lost => first | k_is | rfl)
    (case kt_Twice_Loose => first | k_is | rfl)
    (case kt_Twice_NoNote => first | k_is | rfl)
    (case s_Loose_Loose => first | k_is | rfl)
