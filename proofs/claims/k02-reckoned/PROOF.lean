import PyProof.Rows.All
import Wide.All
import OpenK.AllK
import Wide.FinOn
import HandS.ForMost
import HandS.Exc
import HandS.TryOnly
import HandS.ExcOwn
import HandS.WordsExc
import HandS.IsInst
import HandS.Wide
import HandS.Walk
import HandS.Style
import HandS.ExcIs
import HandS.HotCalls
import HandS.EndBits
import PySem.Challenge.RW_weighwords_k02_reckoned
set_option Elab.async false
set_option linter.all false
set_option maxRecDepth 100000
set_option maxHeartbeats 1000000
namespace DL
open PySem L2

/-! ### heaps: a frozen part F below the whole H -/
theorem same_upd {H : Hp} {p : Addr} {o : HO} (h : H p = none) : Same H (upd H p o) := fun b x e => by
  rw [upd_ne (ne_of_none e h)]
  exact e
structure Gr (F H F' H' : Hp) : Prop where
  f : Same F F'
  s : Same F' H'
  h : Same H H'
  n : ∀ a, F a = none → H a ≠ none → F' a = none
section
variable {F H F1 H1 F2 H2 : Hp} {p : Addr} {o : HO}
theorem Gr.refl (s : Same F H) : Gr F H F H := ⟨Same.refl F, s, Same.refl H, fun _ h _ => h⟩
theorem some_ne {H H' : Hp} (e : Same H H') {a : Addr} (h : H a ≠ none) : H' a ≠ none := by
  cases q : H a with
  | none => exact absurd q h
  | some o => rw [e a o q]; exact fun z => nomatch z
theorem Gr.trans (a : Gr F H F1 H1) (b : Gr F1 H1 F2 H2) : Gr F H F2 H2 :=
  ⟨a.f.trans b.f, b.s, a.h.trans b.h, fun x h1 h2 => b.n x (a.n x h1 h2) (some_ne a.h h2)⟩
/-- a new object, frozen at once -/
theorem Gr.new (s : Same F H) (hp : H p = none) : Gr F H (upd F p o) (upd H p o) := by
  have fp : F p = none := s.free hp
  refine ⟨same_upd fp, fun a u e => ?_, same_upd hp, fun a h1 h2 => ?_⟩
  · by_cases ha : a = p
    · subst ha; rw [upd_same] at e; rw [upd_same]; exact e
    · rw [upd_ne ha] at e; rw [upd_ne ha]; exact s a u e
  · have ha : a ≠ p := fun z => h2 (by rw [z]; exact hp)
    rw [upd_ne ha]; exact h1
/-- a new object, not frozen -/
theorem Gr.newO (s : Same F H) (hp : H p = none) : Gr F H F (upd H p o) :=
  ⟨Same.refl F, fun a u e => by rw [upd_ne (ne_of_none (s a u e) hp)]; exact s a u e, same_upd hp, fun _ h _ => h⟩
/-- a new object in the whole stays out of what grows -/
theorem Gr.out (g : Gr F H F1 H1) (h1 : F p = none) (h2 : H p = some o) : F1 p = none ∧ H1 p = some o :=
  ⟨g.n p h1 (by rw [h2]; exact fun z => nomatch z), g.h p o h2⟩
end

/-! ### data -/
inductive D where
  | non | bl (b : Bool) | int (i : Int) | str (x : Str) | lst (ds : List D) | tup (ds : List D) | dct | scr (ns : List Int) | adr (a : Addr) | ty (n : String) | ins (C : Addr) (fs : List (Str × D))
mutual
inductive Rp (K : PySem.W.Frag) (H : Hp) : V → D → Prop
  | non : Rp K H .non .non
  | bl (b : Bool) : Rp K H (.bl b) (.bl b)
  | int (i : Int) : Rp K H (.int i) (.int i)
  | str (x : Str) : Rp K H (.str x) (.str x)
  | lst {a : Addr} {xs : List V} {ds : List D} : H a = some (.lst xs) → RpA K H xs ds → Rp K H (.ref a) (.lst ds)
  | tup {a : Addr} {xs : List V} {ds : List D} : SqT K H a xs → RpA K H xs ds → Rp K H (.ref a) (.tup ds)
  | dct {a : Addr} : H a = some (.dK []) → Rp K H (.ref a) .dct
  | scr {a : Addr} {ns : List Int} : SqL K H a (ns.map V.int) → Rp K H (.ref a) (.scr ns)
  | adr (a : Addr) : Rp K H (.ref a) (.adr a)
  | ty (n : String) : Rp K H (.ty n) (.ty n)
  | ins {a C dx : Addr} {fs : List (Str × V)} {gs : List (Str × D)} : H a = some (.ins C dx fs) → RpF K H fs gs → Rp K H (.ref a) (.ins C gs)
inductive RpA (K : PySem.W.Frag) (H : Hp) : List V → List D → Prop
  | nil : RpA K H [] []
  | cons {v : V} {vs : List V} {d : D} {ds : List D} : Rp K H v d → RpA K H vs ds → RpA K H (v :: vs) (d :: ds)
inductive RpF (K : PySem.W.Frag) (H : Hp) : List (Str × V) → List (Str × D) → Prop
  | nil : RpF K H [] []
  | cons {f : Str} {v : V} {vs : List (Str × V)} {d : D} {ds : List (Str × D)} : Rp K H v d → RpF K H vs ds → RpF K H ((f, v) :: vs) ((f, d) :: ds)
end
theorem sqt_mono {K : PySem.W.Frag} {H H' : Hp} {a : Addr} {xs : List V} (e : Same H H') (h : SqT K H a xs) : SqT K H' a xs := by
  rcases h with (h | ⟨o, h⟩) | h
  · exact .inl (.inl (e _ _ h))
  · exact .inl (.inr ⟨o, e _ _ h⟩)
  · exact .inr h
section
variable {K : PySem.W.Frag} {H H' : Hp}
mutual
theorem Rp.mono (e : Same H H') : ∀ {v : V} {d : D}, Rp K H v d → Rp K H' v d
  | _, _, .non => .non
  | _, _, .bl b => .bl b
  | _, _, .int i => .int i
  | _, _, .str x => .str x
  | _, _, .lst h a => .lst (e _ _ h) (RpA.mono e a)
  | _, _, .tup h a => .tup (sqt_mono e h) (RpA.mono e a)
  | _, _, .dct h => .dct (e _ _ h)
  | _, _, .scr h => .scr (e.seq h)
  | _, _, .adr a => .adr a
  | _, _, .ty n => .ty n
  | _, _, .ins h a => .ins (e _ _ h) (RpF.mono e a)
theorem RpA.mono (e : Same H H') : ∀ {vs : List V} {ds : List D}, RpA K H vs ds → RpA K H' vs ds
  | _, _, .nil => .nil
  | _, _, .cons h t => .cons (Rp.mono e h) (RpA.mono e t)
theorem RpF.mono (e : Same H H') : ∀ {vs : List (Str × V)} {ds : List (Str × D)}, RpF K H vs ds → RpF K H' vs ds
  | _, _, .nil => .nil
  | _, _, .cons h t => .cons (Rp.mono e h) (RpF.mono e t)
end
theorem RpA.len : ∀ {vs : List V} {ds : List D}, RpA K H vs ds → vs.length = ds.length
  | _, _, .nil => rfl
  | _, _, .cons _ t => congrArg Nat.succ (RpA.len t)
theorem RpA.get : ∀ {vs : List V} {ds : List D} {i : Nat} {d : D}, RpA K H vs ds → ds[i]? = some d → ∃ v, vs[i]? = some v ∧ Rp K H v d
  | _, _, _, _, .nil, e => by simp at e
  | _, _, 0, _, .cons h _, e => by
    simp at e
    subst e
    exact ⟨_, rfl, h⟩
  | _, _, i + 1, d, .cons _ t, e => by
    obtain ⟨v, h1, h2⟩ := RpA.get (i := i) (d := d) t (by simpa using e)
    exact ⟨v, by simpa using h1, h2⟩
theorem RpA.getV : ∀ {vs : List V} {ds : List D} {i : Nat} {v : V}, RpA K H vs ds → vs[i]? = some v → ∃ d, ds[i]? = some d ∧ Rp K H v d
  | _, _, _, _, .nil, e => by simp at e
  | _, _, 0, _, .cons h _, e => by
    simp at e
    subst e
    exact ⟨_, rfl, h⟩
  | _, _, i + 1, d, .cons _ t, e => by
    obtain ⟨v, h1, h2⟩ := RpA.getV (i := i) t (by simpa using e)
    exact ⟨v, by simpa using h1, h2⟩
theorem RpA.append : ∀ {vs ws : List V} {ds es : List D}, RpA K H vs ds → RpA K H ws es → RpA K H (vs ++ ws) (ds ++ es)
  | _, _, _, _, .nil, t => t
  | _, _, _, _, .cons h t, u => .cons h (RpA.append t u)
theorem RpA.one {v : V} {d : D} (h : Rp K H v d) : RpA K H [v] [d] := .cons h .nil
theorem RpA.take (n : Nat) : ∀ {vs : List V} {ds : List D}, RpA K H vs ds → RpA K H (vs.take n) (ds.take n) := by
  induction n with
  | zero => intro vs ds h; exact .nil
  | succ n ih =>
    intro vs ds h
    cases h with
    | nil => exact .nil
    | cons h t => exact .cons h (ih t)
theorem RpA.drop (n : Nat) : ∀ {vs : List V} {ds : List D}, RpA K H vs ds → RpA K H (vs.drop n) (ds.drop n) := by
  induction n with
  | zero => intro vs ds h; exact h
  | succ n ih =>
    intro vs ds h
    cases h with
    | nil => exact .nil
    | cons h t => exact ih t
theorem RpA.reverse : ∀ {vs : List V} {ds : List D}, RpA K H vs ds → RpA K H vs.reverse ds.reverse
  | _, _, .nil => .nil
  | _, _, .cons h t => by rw [List.reverse_cons, List.reverse_cons]; exact (RpA.reverse t).append (.one h)
theorem RpA.ints : ∀ {vs : List V} {ns : List Int}, RpA K H vs (ns.map D.int) → vs = ns.map V.int
  | _, [], .nil => rfl
  | _, _ :: _, .cons (.int _) t => by rw [RpA.ints t]; rfl
theorem RpA.ofInts (ns : List Int) : RpA K H (ns.map V.int) (ns.map D.int) := by
  induction ns with
  | nil => exact .nil
  | cons n r ih => exact .cons (.int n) ih
theorem RpA.bls : ∀ {vs : List V} {ns : List Bool}, RpA K H vs (ns.map D.bl) → vs = ns.map V.bl
  | _, [], .nil => rfl
  | _, _ :: _, .cons (.bl _) t => by rw [RpA.bls t]; rfl
theorem RpA.strs : ∀ {vs : List V} {ns : List Str}, RpA K H vs (ns.map D.str) → vs = ns.map V.str
  | _, [], .nil => rfl
  | _, _ :: _, .cons (.str _) t => by rw [RpA.strs t]; rfl
theorem RpA.ofStrs (ns : List Str) : RpA K H (ns.map V.str) (ns.map D.str) := by
  induction ns with
  | nil => exact .nil
  | cons n r ih => exact .cons (.str n) ih
theorem RpA.rep {vs : List V} {ds : List D} (h : RpA K H vs ds) (n : Nat) : RpA K H (List.replicate n vs).flatten (List.replicate n ds).flatten := by
  induction n with
  | zero => exact .nil
  | succ n ih =>
    rw [List.replicate_succ, List.replicate_succ, List.flatten_cons, List.flatten_cons]
    exact h.append ih
theorem RpF.look {f : Str} {d : D} : ∀ {vs : List (Str × V)} {ds : List (Str × D)}, RpF K H vs ds → ds.lookup f = some d → ∃ v, vs.lookup f = some v ∧ Rp K H v d
  | _, _, .nil, e => by simp at e
  | (g, v) :: vs, (_, d') :: ds, .cons h t, e => by
    by_cases hg : (f == g) = true
    · simp only [List.lookup, hg] at e ⊢
      cases e
      exact ⟨v, rfl, h⟩
    · have hg' : (f == g) = false := by simpa using hg
      simp only [List.lookup, hg'] at e ⊢
      exact RpF.look t e
theorem RpF.lookNone {f : Str} : ∀ {vs : List (Str × V)} {ds : List (Str × D)}, RpF K H vs ds → ds.lookup f = none → vs.lookup f = none
  | _, _, .nil, e => rfl
  | (g, v) :: vs, (_, d') :: ds, .cons h t, e => by
    by_cases hg : (f == g) = true
    · simp only [List.lookup, hg] at e
      cases e
    · have hg' : (f == g) = false := by simpa using hg
      simp only [List.lookup, hg'] at e ⊢
      exact RpF.lookNone t e
end

/-! ### slots -/
inductive Sl where
  | no | fz (d : D) | ow (ds : List D)
abbrev Gam := List Sl
structure Ok (K : PySem.W.Frag) (F0 H0 F H : Hp) (σ : L2.St) (Γ : Gam) : Prop where
  g : Gr F0 H0 F H
  len : σ.length = Γ.length
  fz : ∀ (i : Nat) (d : D), Γ[i]? = some (.fz d) → ∃ v, σ[i]? = some (some v) ∧ Rp K F v d
  ow : ∀ (i : Nat) (ds : List D), Γ[i]? = some (.ow ds) → ∃ p vs, σ[i]? = some (some (.ref p)) ∧ H p = some (.lst vs) ∧ F p = none ∧ H0 p = none ∧ RpA K F vs ds
  ap : ∀ (i j : Nat) (ds es : List D) (p : Addr), i ≠ j → Γ[i]? = some (.ow ds) → Γ[j]? = some (.ow es) → σ[i]? = some (some (.ref p)) → σ[j]? ≠ some (some (.ref p))
section
variable {K : PySem.W.Frag} {F0 H0 F H F1 H1 : Hp} {σ : L2.St} {Γ : Gam}
theorem Ok.grow (o : Ok K F0 H0 F H σ Γ) (g : Gr F H F1 H1) : Ok K F0 H0 F1 H1 σ Γ :=
  ⟨o.g.trans g, o.len, fun i d h => by
    obtain ⟨v, h1, h2⟩ := o.fz i d h
    exact ⟨v, h1, h2.mono g.f⟩, fun i ds h => by
    obtain ⟨p, vs, h1, h2, h3, h4, h5⟩ := o.ow i ds h
    obtain ⟨a, b⟩ := g.out h3 h2
    exact ⟨p, vs, h1, b, a, h4, h5.mono g.f⟩, o.ap⟩
theorem set_get {α : Type} {l : List α} {i j : Nat} {x y : α} (h : (l.set i x)[j]? = some y) : (i = j ∧ y = x) ∨ (i ≠ j ∧ l[j]? = some y) := by
  by_cases e : i = j
  · subst e
    by_cases hl : i < l.length
    · rw [List.getElem?_set_self hl] at h
      exact .inl ⟨rfl, (Option.some.inj h).symm⟩
    · rw [List.getElem?_eq_none (by simpa using hl)] at h
      cases h
  · rw [List.getElem?_set_ne e] at h
    exact .inr ⟨e, h⟩
theorem set_at {α β : Type} {l : List α} {m : List β} (e : l.length = m.length) {i : Nat} {x : α} {y z : β} (h : (m.set i y)[i]? = some z) : (l.set i x)[i]? = some x := by
  have hl : i < m.length := by
    by_cases hl : i < m.length
    · exact hl
    · rw [List.getElem?_eq_none (by simpa using hl)] at h
      cases h
  exact List.getElem?_set_self (by omega)
/-- a slot takes a frozen value -/
theorem Ok.set (o : Ok K F0 H0 F H σ Γ) {i : Nat} {v : V} {d : D} (r : Rp K F v d) : Ok K F0 H0 F H (σ.set i (some v)) (Γ.set i (.fz d)) := by
  refine ⟨o.g, by simpa using o.len, fun j e h => ?_, fun j ds h => ?_, fun j k ds es p hjk h1 h2 h3 h4 => ?_⟩
  · rcases set_get h with ⟨rfl, q⟩ | ⟨n, q⟩
    · cases q
      exact ⟨v, set_at o.len h, r⟩
    · rw [List.getElem?_set_ne n]
      exact o.fz j e q
  · rcases set_get h with ⟨rfl, q⟩ | ⟨n, q⟩
    · cases q
    · rw [List.getElem?_set_ne n]
      exact o.ow j ds q
  · rcases set_get h1 with ⟨rfl, q⟩ | ⟨n1, q1⟩
    · cases q
    · rcases set_get h2 with ⟨rfl, q⟩ | ⟨n2, q2⟩
      · cases q
      · rw [List.getElem?_set_ne n1] at h3
        rw [List.getElem?_set_ne n2] at h4
        exact o.ap j k ds es p hjk q1 q2 h3 h4
/-- what stands in a slot is forgotten -/
theorem Ok.no (o : Ok K F0 H0 F H σ Γ) (i : Nat) (x : Option V) : Ok K F0 H0 F H (σ.set i x) (Γ.set i .no) := by
  refine ⟨o.g, by simpa using o.len, fun j e h => ?_, fun j ds h => ?_, fun j k ds es p hjk h1 h2 h3 h4 => ?_⟩
  · rcases set_get h with ⟨rfl, q⟩ | ⟨n, q⟩
    · cases q
    · rw [List.getElem?_set_ne n]
      exact o.fz j e q
  · rcases set_get h with ⟨rfl, q⟩ | ⟨n, q⟩
    · cases q
    · rw [List.getElem?_set_ne n]
      exact o.ow j ds q
  · rcases set_get h1 with ⟨rfl, q⟩ | ⟨n1, q1⟩
    · cases q
    · rcases set_get h2 with ⟨rfl, q⟩ | ⟨n2, q2⟩
      · cases q
      · rw [List.getElem?_set_ne n1] at h3
        rw [List.getElem?_set_ne n2] at h4
        exact o.ap j k ds es p hjk q1 q2 h3 h4
/-- Γ tells less -/
def Le (Γ Γ' : Gam) : Prop := Γ.length = Γ'.length ∧ ∀ (i : Nat) (s : Sl), Γ'[i]? = some s → s = .no ∨ Γ[i]? = some s
theorem Ok.le {Γ' : Gam} (o : Ok K F0 H0 F H σ Γ) (l : Le Γ Γ') : Ok K F0 H0 F H σ Γ' := by
  refine ⟨o.g, o.len.trans l.1, fun i d h => ?_, fun i ds h => ?_, fun i j ds es p hij h1 h2 => ?_⟩
  · rcases l.2 i _ h with q | q
    · cases q
    · exact o.fz i d q
  · rcases l.2 i _ h with q | q
    · cases q
    · exact o.ow i ds q
  · rcases l.2 i _ h1 with q | q
    · cases q
    · rcases l.2 j _ h2 with q2 | q2
      · cases q2
      · exact o.ap i j ds es p hij q q2
theorem Le.refl (Γ : Gam) : Le Γ Γ := ⟨rfl, fun _ _ h => .inr h⟩
theorem Le.cons {s s' : Sl} {Γ Γ' : Gam} (h : s' = .no ∨ s = s') (l : Le Γ Γ') : Le (s :: Γ) (s' :: Γ') := by
  refine ⟨by simp [l.1], fun i x e => ?_⟩
  cases i with
  | zero =>
    simp at e
    subst e
    rcases h with h | h
    · exact .inl h
    · exact .inr (by simp [h])
  | succ i => exact (l.2 i x (by simpa using e)).imp id fun q => by simpa using q
theorem Le.nil : Le [] [] := Le.refl _
theorem Le.trans {Γ Γ' Γ'' : Gam} (a : Le Γ Γ') (b : Le Γ' Γ'') : Le Γ Γ'' := ⟨a.1.trans b.1, fun i s h => by
  rcases b.2 i s h with q | q
  · exact .inl q
  · exact a.2 i s q⟩
/-- a new list, owned -/
theorem Ok.setOw (o : Ok K F0 H0 F H σ Γ) {i : Nat} {p : Addr} {vs : List V} {ds : List D} (hp : H p = none) (r : RpA K F vs ds) : Ok K F0 H0 F (upd H p (.lst vs)) (σ.set i (some (.ref p))) (Γ.set i (.ow ds)) := by
  have g := Gr.newO (o := .lst vs) o.g.s hp
  have o2 := o.grow g
  have h0 : H0 p = none := o.g.h.free hp
  have nf : F p = none := o.g.s.free hp
  have old : ∀ (j : Nat) (es : List D) (q : Addr), Γ[j]? = some (.ow es) → σ[j]? = some (some (.ref q)) → q ≠ p := fun j es q h1 h2 => by
    obtain ⟨q', ws, a, b, _⟩ := o.ow j es h1
    rw [h2] at a
    cases a
    exact ne_of_none b hp
  refine ⟨o2.g, by simpa using o.len, fun j e h => ?_, fun j es h => ?_, fun j k es fs q hjk h1 h2 h3 h4 => ?_⟩
  · rcases set_get h with ⟨rfl, q⟩ | ⟨n, q⟩
    · cases q
    · rw [List.getElem?_set_ne n]
      exact o2.fz j e q
  · rcases set_get h with ⟨rfl, q⟩ | ⟨n, q⟩
    · cases q
      exact ⟨p, vs, set_at o.len h, upd_same, nf, h0, r⟩
    · rw [List.getElem?_set_ne n]
      exact o2.ow j es q
  · rcases set_get h1 with ⟨e1, x1⟩ | ⟨n1, q1⟩
    · subst e1
      rw [set_at o.len h1] at h3
      cases h3
      rcases set_get h2 with ⟨e2, _⟩ | ⟨n2, q2⟩
      · exact hjk e2
      · rw [List.getElem?_set_ne n2] at h4
        exact old k fs p q2 h4 rfl
    · rw [List.getElem?_set_ne n1] at h3
      rcases set_get h2 with ⟨e2, x2⟩ | ⟨n2, q2⟩
      · subst e2
        rw [set_at o.len h2] at h4
        cases h4
        exact old j es p q1 h3 rfl
      · rw [List.getElem?_set_ne n2] at h4
        exact o.ap j k es fs q hjk q1 q2 h3 h4
/-- an owned list changes -/
theorem Ok.upOw (o : Ok K F0 H0 F H σ Γ) {i : Nat} {p : Addr} {ds : List D} {ws : List V} {es : List D} (hi : Γ[i]? = some (.ow ds)) (hs : σ[i]? = some (some (.ref p))) (r : RpA K F ws es) :
    Ok K F0 H0 F (upd H p (.lst ws)) σ (Γ.set i (.ow es)) := by
  obtain ⟨p', vs, a, b, c, d, e⟩ := o.ow i ds hi
  rw [hs] at a
  cases a
  have il : i < Γ.length := (List.getElem?_eq_some_iff.mp hi).1
  refine ⟨⟨o.g.f, fun x u h => ?_, fun x u h => ?_, o.g.n⟩, by simpa using o.len, fun j e' h => ?_, fun j fs h => ?_, fun j k fs gs q hjk h1 h2 h3 h4 => ?_⟩
  · rw [upd_ne (ne_of_none h c)]
    exact o.g.s x u h
  · rw [upd_ne (ne_of_none h d)]
    exact o.g.h x u h
  · rcases set_get h with ⟨rfl, q⟩ | ⟨n, q⟩
    · cases q
    · exact o.fz j e' q
  · rcases set_get h with ⟨rfl, q⟩ | ⟨n, q⟩
    · cases q
      exact ⟨p, ws, hs, upd_same, c, d, r⟩
    · obtain ⟨q', xs, a', b', c', d', e'⟩ := o.ow j fs q
      have nq : q' ≠ p := fun z => by
        subst z
        exact o.ap i j ds fs q' n hi q hs a'
      exact ⟨q', xs, a', by rw [upd_ne nq]; exact b', c', d', e'⟩
  · have back : ∀ {x : Nat} {zs : List D}, (Γ.set i (.ow es))[x]? = some (.ow zs) → ∃ ys, Γ[x]? = some (.ow ys) := fun {x zs} h => by
      rcases set_get h with ⟨rfl, q⟩ | ⟨n, q⟩
      · exact ⟨ds, hi⟩
      · exact ⟨zs, q⟩
    obtain ⟨y1, q1⟩ := back h1
    obtain ⟨y2, q2⟩ := back h2
    exact o.ap j k y1 y2 q hjk q1 q2 h3 h4
/-- an owned list is frozen -/
theorem Ok.freeze (o : Ok K F0 H0 F H σ Γ) {i : Nat} {ds : List D} (hi : Γ[i]? = some (.ow ds)) : ∃ F', Gr F0 H0 F' H ∧ Same F F' ∧ Ok K F0 H0 F' H σ (Γ.set i (.fz (.lst ds))) := by
  obtain ⟨p, vs, a, b, c, d, e⟩ := o.ow i ds hi
  have sF : Same F (upd F p (.lst vs)) := same_upd c
  have g : Gr F0 H0 (upd F p (.lst vs)) H := by
    refine ⟨o.g.f.trans sF, fun x u h => ?_, o.g.h, fun x h1 h2 => ?_⟩
    · by_cases hx : x = p
      · subst hx; rw [upd_same] at h; cases h; exact b
      · rw [upd_ne hx] at h; exact o.g.s x u h
    · have hx : x ≠ p := fun z => h2 (by rw [z]; exact d)
      rw [upd_ne hx]; exact o.g.n x h1 h2
  refine ⟨upd F p (.lst vs), g, sF, ⟨g, by simpa using o.len, fun j e' h => ?_, fun j fs h => ?_, fun j k fs gs q hjk h1 h2 h3 h4 => ?_⟩⟩
  · rcases set_get h with ⟨rfl, q⟩ | ⟨n, q⟩
    · cases q
      exact ⟨.ref p, a, .lst upd_same (e.mono sF)⟩
    · obtain ⟨v, h1, h2⟩ := o.fz j e' q
      exact ⟨v, h1, h2.mono sF⟩
  · rcases set_get h with ⟨rfl, q⟩ | ⟨n, q⟩
    · cases q
    · obtain ⟨q', xs, a', b', c', d', e'⟩ := o.ow j fs q
      have nq : q' ≠ p := fun z => by
        subst z
        exact o.ap i j ds fs q' n hi q a a'
      exact ⟨q', xs, a', b', by rw [upd_ne nq]; exact c', d', e'.mono sF⟩
  · rcases set_get h1 with ⟨rfl, q⟩ | ⟨n1, q1⟩
    · cases q
    · rcases set_get h2 with ⟨rfl, q⟩ | ⟨n2, q2⟩
      · cases q
      · exact o.ap j k fs gs q hjk q1 q2 h3 h4
/-- the slots of a block of its own -/
def wipeG (Γ : Gam) : List Nat → Gam
  | [] => Γ
  | v :: vs => (wipeG Γ vs).set v .no
theorem Ok.wipe (o : Ok K F0 H0 F H σ Γ) : ∀ vs : List Nat, Ok K F0 H0 F H (L2.wipe σ vs) (wipeG Γ vs)
  | [] => o
  | v :: vs => (Ok.wipe o vs).no v none
end
theorem set_set_ne {α : Type} (l : List α) {i j : Nat} (h : i ≠ j) (x y : α) : (l.set i x).set j y = (l.set j y).set i x := (List.set_comm x y h)
theorem wipe_set {σ : L2.St} {j : Nat} {x : Option V} : ∀ {vs : List Nat}, j ∈ vs → L2.wipe (σ.set j x) vs = L2.wipe σ vs
  | [], h => by cases h
  | v :: vs, h => by
    show (L2.wipe (σ.set j x) vs).set v none = (L2.wipe σ vs).set v none
    by_cases hm : j ∈ vs
    · rw [wipe_set hm]
    · rcases List.mem_cons.mp h with e | e
      · subst e
        have step : ∀ ws : List Nat, j ∉ ws → L2.wipe (σ.set j x) ws = (L2.wipe σ ws).set j x := by
          intro ws
          induction ws with
          | nil => intro _; rfl
          | cons w ws ih =>
            intro hn
            show (L2.wipe (σ.set j x) ws).set w none = ((L2.wipe σ ws).set w none).set j x
            rw [ih fun z => hn (List.mem_cons_of_mem _ z)]
            exact set_set_ne _ (fun z => hn (by rw [z]; exact List.mem_cons_self)) _ _
        rw [step vs hm, List.set_set]
      · exact absurd e hm
theorem wipe_wipe (σ : L2.St) : ∀ vs : List Nat, L2.wipe (L2.wipe σ vs) vs = L2.wipe σ vs := by
  have step : ∀ (ws vs : List Nat), (∀ w ∈ ws, w ∈ vs) → L2.wipe (L2.wipe σ ws) vs = L2.wipe σ vs := by
    intro ws
    induction ws with
    | nil => intro vs _; rfl
    | cons w ws ih =>
      intro vs h
      show L2.wipe ((L2.wipe σ ws).set w none) vs = _
      rw [wipe_set (h w List.mem_cons_self)]
      exact ih vs fun x hx => h x (List.mem_cons_of_mem _ hx)
  exact fun vs => step vs vs fun _ h => h
end DL

namespace DL
open PySem L2

/-! ### what evaluates to what -/
def Ed (K : PySem.W.Frag) (te : TE) (Γ : Gam) (d : D) : Prop := ∀ (F0 H0 F H : Hp) (σ : L2.St), Ok K F0 H0 F H σ Γ → ∀ Q : VK, (∀ v F1 H1, Gr F H F1 H1 → Rp K F1 v d → Q v H1) → te σ H Q
def Et (K : PySem.W.Frag) (tt : TT) (Γ : Gam) (b : Bool) : Prop := ∀ (F0 H0 F H : Hp) (σ : L2.St), Ok K F0 H0 F H σ Γ → ∀ Q : Bool → Hp → Prop, (∀ F1 H1, Gr F H F1 H1 → Q b H1) → tt σ H Q
def Ea (K : PySem.W.Frag) (ta : TA) (Γ : Gam) (ds : List D) : Prop := ∀ (F0 H0 F H : Hp) (σ : L2.St), Ok K F0 H0 F H σ Γ → ∀ Q : List V → Hp → Prop, (∀ vs F1 H1, Gr F H F1 H1 → RpA K F1 vs ds → Q vs H1) → ta σ H Q
def Eo (K : PySem.W.Frag) (to : TO) (Γ : Gam) (o : Option Int) : Prop := ∀ (F0 H0 F H : Hp) (σ : L2.St), Ok K F0 H0 F H σ Γ → ∀ Q : Option Int → Hp → Prop, (∀ F1 H1, Gr F H F1 H1 → Q o H1) → to σ H Q
/-- a new list that nobody else holds -/
def Ew (K : PySem.W.Frag) (te : TE) (Γ : Gam) (ds : List D) : Prop := ∀ (F0 H0 F H : Hp) (σ : L2.St), Ok K F0 H0 F H σ Γ → ∀ Q : VK, (∀ p vs F1 H1, Gr F H F1 H1 → H p = none → F1 p = none → H1 p = some (.lst vs) → RpA K F1 vs ds → Q (.ref p) H1) → te σ H Q
/-- it raises an error of the class at C -/
def Xd (K : PySem.W.Frag) (E : XK) (te : TE) (Γ : Gam) (C : Addr) : Prop := ∀ (F0 H0 F H : Hp) (σ : L2.St), Ok K F0 H0 F H σ Γ → (∀ F1 H1, Gr F H F1 H1 → E (.ref C) none H1) → ∀ Q : VK, te σ H Q
def Xa (K : PySem.W.Frag) (E : XK) (ta : TA) (Γ : Gam) (C : Addr) : Prop := ∀ (F0 H0 F H : Hp) (σ : L2.St), Ok K F0 H0 F H σ Γ → (∀ F1 H1, Gr F H F1 H1 → E (.ref C) none H1) → ∀ Q : List V → Hp → Prop, ta σ H Q
/-! by values -/
def R2D (K : PySem.W.Frag) (r : R2) (dx dy d : D) : Prop := ∀ (F H : Hp) (x y : V), Same F H → Rp K F x dx → Rp K F y dy → ∀ Q : VK, (∀ v F1 H1, Gr F H F1 H1 → Rp K F1 v d → Q v H1) → r x y H Q
def R1D (K : PySem.W.Frag) (r : V → Hp → VK → Prop) (dx d : D) : Prop := ∀ (F H : Hp) (x : V), Same F H → Rp K F x dx → ∀ Q : VK, (∀ v F1 H1, Gr F H F1 H1 → Rp K F1 v d → Q v H1) → r x H Q
def RcD (K : PySem.W.Frag) (r : List V → Hp → VK → Prop) (ds : List D) (d : D) : Prop := ∀ (F H : Hp) (xs : List V), Same F H → RpA K F xs ds → ∀ Q : VK, (∀ v F1 H1, Gr F H F1 H1 → Rp K F1 v d → Q v H1) → r xs H Q
def RmD (K : PySem.W.Frag) (r : V → List V → Hp → VK → Prop) (dx : D) (ds : List D) (d : D) : Prop := ∀ (F H : Hp) (x : V) (xs : List V), Same F H → Rp K F x dx → RpA K F xs ds → ∀ Q : VK, (∀ v F1 H1, Gr F H F1 H1 → Rp K F1 v d → Q v H1) → r x xs H Q
def RsD (K : PySem.W.Frag) (r : V → Option Int → Option Int → Hp → VK → Prop) (dx : D) (lo hi : Option Int) (d : D) : Prop := ∀ (F H : Hp) (x : V), Same F H → Rp K F x dx → ∀ Q : VK, (∀ v F1 H1, Gr F H F1 H1 → Rp K F1 v d → Q v H1) → r x lo hi H Q
section
variable {K : PySem.W.Frag} {Γ Γ' : Gam} {ta tb te tx : TE} {t u : TT} {d dx dy : D} {ds es : List D} {tas tr : TA} {E : XK}
theorem Ed.le (h : Ed K te Γ' d) (l : Le Γ Γ') : Ed K te Γ d := fun F0 H0 F H σ o Q q => h F0 H0 F H σ (o.le l) Q q
theorem ed_is {d' : D} (h : Ed K te Γ d) (e : d = d') : Ed K te Γ d' := e ▸ h
theorem et_is {b c : Bool} (h : Et K t Γ b) (e : b = c) : Et K t Γ c := e ▸ h
theorem ed_fz (i : Nat) (h : Γ[i]? = some (.fz d)) : Ed K (tVar i) Γ d := fun F0 H0 F H σ o Q q => by
  obtain ⟨v, a, b⟩ := o.fz i d h
  exact ⟨v, a, q v F H (Gr.refl o.g.s) b⟩
theorem ed_c {v : V} (h : ∀ F, Rp K F v d) : Ed K (tC v) Γ d := fun F0 H0 F H σ o Q q => q v F H (Gr.refl o.g.s) (h F)
theorem ed_int (i : Int) : Ed K (tC (.int i)) Γ (.int i) := ed_c fun F => .int i
theorem ed_bl (i : Bool) : Ed K (tC (.bl i)) Γ (.bl i) := ed_c fun F => .bl i
theorem ed_non : Ed K (tC .non) Γ .non := ed_c fun F => .non
theorem ed_str (i : Str) : Ed K (tC (.str i)) Γ (.str i) := ed_c fun F => .str i
theorem ed_ty (i : String) : Ed K (tC (.ty i)) Γ (.ty i) := ed_c fun F => .ty i
theorem ed_adr (a : Addr) : Ed K (tC (.ref a)) Γ (.adr a) := ed_c fun F => .adr a
theorem ed_op {r : R2} (ha : Ed K ta Γ dx) (hb : Ed K tb Γ dy) (hr : R2D K r dx dy d) : Ed K (tOp r ta tb) Γ d := fun F0 H0 F H σ o Q q =>
  ha F0 H0 F H σ o _ fun v F1 H1 g1 r1 => hb F0 H0 F1 H1 σ (o.grow g1) _ fun w F2 H2 g2 r2 => hr F2 H2 v w g2.s (r1.mono g2.f) r2 Q fun z F3 H3 g3 r3 => q z F3 H3 ((g1.trans g2).trans g3) r3
theorem ed_un {r : V → Hp → VK → Prop} (ha : Ed K ta Γ dx) (hr : R1D K r dx d) : Ed K (tUn r ta) Γ d := fun F0 H0 F H σ o Q q =>
  ha F0 H0 F H σ o _ fun v F1 H1 g1 r1 => hr F1 H1 v g1.s r1 Q fun z F3 H3 g3 r3 => q z F3 H3 (g1.trans g3) r3
theorem ea_nil : Ea K tNil Γ [] := fun F0 H0 F H σ o Q q => q [] F H (Gr.refl o.g.s) .nil
theorem ea_cons (ha : Ed K ta Γ d) (hb : Ea K tr Γ ds) : Ea K (tCons ta tr) Γ (d :: ds) := fun F0 H0 F H σ o Q q =>
  ha F0 H0 F H σ o _ fun v F1 H1 g1 r1 => hb F0 H0 F1 H1 σ (o.grow g1) _ fun w F2 H2 g2 r2 => q (v :: w) F2 H2 (g1.trans g2) (.cons (r1.mono g2.f) r2)
theorem ed_cb {r : List V → Hp → VK → Prop} (ha : Ea K tas Γ ds) (hr : RcD K r ds d) : Ed K (tCB r tas) Γ d := fun F0 H0 F H σ o Q q =>
  ha F0 H0 F H σ o _ fun v F1 H1 g1 r1 => hr F1 H1 v g1.s r1 Q fun z F3 H3 g3 r3 => q z F3 H3 (g1.trans g3) r3
theorem eo_none : Eo K tNoPart Γ none := fun F0 H0 F H σ o Q q => q F H (Gr.refl o.g.s)
theorem eo_some {i : Int} (h : Ed K te Γ (.int i)) : Eo K (tPart te) Γ (some i) := fun F0 H0 F H σ o Q q =>
  h F0 H0 F H σ o _ fun v F1 H1 g1 r1 => by
    cases r1
    exact ⟨i, rfl, q F1 H1 g1⟩
theorem ed_sl {r : V → Option Int → Option Int → Hp → VK → Prop} {tl th : TO} {lo hi : Option Int} (h : Ed K te Γ dx) (h1 : Eo K tl Γ lo) (h2 : Eo K th Γ hi) (hr : RsD K r dx lo hi d) : Ed K (tSl r te tl th) Γ d := fun F0 H0 F H σ o Q q =>
  h F0 H0 F H σ o _ fun v F1 H1 g1 r1 => h1 F0 H0 F1 H1 σ (o.grow g1) _ fun F2 H2 g2 => h2 F0 H0 F2 H2 σ ((o.grow g1).grow g2) _ fun F3 H3 g3 =>
    hr F3 H3 v g3.s ((r1.mono g2.f).mono g3.f) Q fun z F4 H4 g4 r4 => q z F4 H4 (((g1.trans g2).trans g3).trans g4) r4
/-- tests -/
theorem et_test {b : Bool} (h : Ed K te Γ (.bl b)) : Et K (tTest te) Γ b := fun F0 H0 F H σ o Q q => h F0 H0 F H σ o _ fun v F1 H1 g1 r1 => by
  cases r1
  exact ⟨b, rfl, q F1 H1 g1⟩
theorem et_B {b : Bool} (h : Ed K te Γ (.bl b)) : Et K (tB te) Γ b := fun F0 H0 F H σ o Q q => h F0 H0 F H σ o _ fun v F1 H1 g1 r1 => by
  cases r1
  exact ⟨b, rfl, q F1 H1 g1⟩
theorem et_and {a b : Bool} (h1 : Et K t Γ a) (h2 : a = true → Et K u Γ b) : Et K (tAnd t u) Γ (a && b) := fun F0 H0 F H σ o Q q => h1 F0 H0 F H σ o _ fun F1 H1 g1 => by
  cases a with
  | true =>
    show u σ H1 Q
    exact h2 rfl F0 H0 F1 H1 σ (o.grow g1) Q fun F2 H2 g2 => q F2 H2 (g1.trans g2)
  | false =>
    show Q false H1
    exact q F1 H1 g1
theorem et_or {a b : Bool} (h1 : Et K t Γ a) (h2 : a = false → Et K u Γ b) : Et K (tOr t u) Γ (a || b) := fun F0 H0 F H σ o Q q => h1 F0 H0 F H σ o _ fun F1 H1 g1 => by
  cases a with
  | false =>
    show u σ H1 Q
    exact h2 rfl F0 H0 F1 H1 σ (o.grow g1) Q fun F2 H2 g2 => q F2 H2 (g1.trans g2)
  | true =>
    show Q true H1
    exact q F1 H1 g1
theorem et_not {a : Bool} (h1 : Et K t Γ a) : Et K (tNot t) Γ (!a) := fun F0 H0 F H σ o Q q => h1 F0 H0 F H σ o _ fun F1 H1 g1 => q F1 H1 g1
theorem ed_andV {a b : Bool} (h1 : Ed K ta Γ (.bl a)) (h2 : a = true → Ed K tb Γ (.bl b)) : Ed K (tAndV ta tb) Γ (.bl (a && b)) := fun F0 H0 F H σ o Q q => h1 F0 H0 F H σ o _ fun v F1 H1 g1 r1 => by
  cases r1
  refine ⟨a, rfl, ?_⟩
  cases a with
  | true =>
    show tb σ H1 Q
    exact h2 rfl F0 H0 F1 H1 σ (o.grow g1) Q fun v F2 H2 g2 r2 => q v F2 H2 (g1.trans g2) r2
  | false =>
    show Q (.bl false) H1
    exact q _ F1 H1 g1 (.bl false)
theorem ed_orV {a b : Bool} (h1 : Ed K ta Γ (.bl a)) (h2 : a = false → Ed K tb Γ (.bl b)) : Ed K (tOrV ta tb) Γ (.bl (a || b)) := fun F0 H0 F H σ o Q q => h1 F0 H0 F H σ o _ fun v F1 H1 g1 r1 => by
  cases r1
  refine ⟨a, rfl, ?_⟩
  cases a with
  | false =>
    show tb σ H1 Q
    exact h2 rfl F0 H0 F1 H1 σ (o.grow g1) Q fun v F2 H2 g2 r2 => q v F2 H2 (g1.trans g2) r2
  | true =>
    show Q (.bl true) H1
    exact q _ F1 H1 g1 (.bl true)
theorem ed_notV {a : Bool} (h1 : Ed K ta Γ (.bl a)) : Ed K (tNotV ta) Γ (.bl (!a)) := fun F0 H0 F H σ o Q q => h1 F0 H0 F H σ o _ fun v F1 H1 g1 r1 => by
  cases r1
  exact ⟨a, rfl, q _ F1 H1 g1 (.bl _)⟩
theorem et_orT (h : Et K t Γ true) : Et K (tOr t u) Γ true := et_or (b := false) h fun z => nomatch z
theorem et_orF {b : Bool} (h : Et K t Γ false) (h2 : Et K u Γ b) : Et K (tOr t u) Γ b := et_or h fun _ => h2
theorem et_andT {b : Bool} (h : Et K t Γ true) (h2 : Et K u Γ b) : Et K (tAnd t u) Γ b := et_and h fun _ => h2
theorem et_andF (h : Et K t Γ false) : Et K (tAnd t u) Γ false := et_and (b := false) h fun z => nomatch z
theorem ed_orT (h : Ed K ta Γ (.bl true)) : Ed K (tOrV ta tb) Γ (.bl true) := ed_orV (b := false) h fun z => nomatch z
theorem ed_orF {b : Bool} (h : Ed K ta Γ (.bl false)) (h2 : Ed K tb Γ (.bl b)) : Ed K (tOrV ta tb) Γ (.bl b) := ed_orV h fun _ => h2
theorem ed_andT {b : Bool} (h : Ed K ta Γ (.bl true)) (h2 : Ed K tb Γ (.bl b)) : Ed K (tAndV ta tb) Γ (.bl b) := ed_andV h fun _ => h2
theorem ed_andF (h : Ed K ta Γ (.bl false)) : Ed K (tAndV ta tb) Γ (.bl false) := ed_andV (b := false) h fun z => nomatch z
theorem et_nF (h : Et K t Γ true) : Et K (tNot t) Γ false := et_not h
theorem et_nT (h : Et K t Γ false) : Et K (tNot t) Γ true := et_not h
theorem ed_if {b : Bool} (h : Et K t Γ b) (h1 : b = true → Ed K ta Γ d) (h2 : b = false → Ed K tb Γ d) : Ed K (tIf t ta tb) Γ d := fun F0 H0 F H σ o Q q => h F0 H0 F H σ o _ fun F1 H1 g1 => by
  cases b with
  | true =>
    show ta σ H1 Q
    exact h1 rfl F0 H0 F1 H1 σ (o.grow g1) Q fun v F2 H2 g2 r2 => q v F2 H2 (g1.trans g2) r2
  | false =>
    show tb σ H1 Q
    exact h2 rfl F0 H0 F1 H1 σ (o.grow g1) Q fun v F2 H2 g2 r2 => q v F2 H2 (g1.trans g2) r2
theorem ed_chain {r r' : R2} {tc : TE} {dz : D} {a b : Bool} (ha : Ed K ta Γ dx) (hb : Ed K tb Γ dy) (h1 : R2D K r dx dy (.bl a)) (h2 : a = true → Ed K tc Γ dz ∧ R2D K r' dy dz (.bl b)) : Ed K (tChain r r' ta tb tc) Γ (.bl (a && b)) := fun F0 H0 F H σ o Q q =>
  ha F0 H0 F H σ o _ fun v F1 H1 g1 r1 => hb F0 H0 F1 H1 σ (o.grow g1) _ fun w F2 H2 g2 r2 => h1 F2 H2 v w g2.s (r1.mono g2.f) r2 _ fun z F3 H3 g3 r3 => by
    cases r3
    refine ⟨a, rfl, ?_⟩
    cases a with
    | true =>
      show tc σ H3 _
      obtain ⟨hc, h3⟩ := h2 rfl
      exact hc F0 H0 F3 H3 σ (((o.grow g1).grow g2).grow g3) _ fun y F4 H4 g4 r4 => h3 F4 H4 w y g4.s ((r2.mono g3.f).mono g4.f) r4 Q fun z F5 H5 g5 r5 => q z F5 H5 ((((g1.trans g2).trans g3).trans g4).trans g5) r5
    | false =>
      show Q (.bl false) H3
      exact q _ F3 H3 ((g1.trans g2).trans g3) (.bl false)
/-- displays -/
theorem ed_tup (h : Ea K tas Γ ds) (hl : ds.length ≤ 100000 := by exact Nat.le_of_ble_eq_true rfl) : Ed K (tTup tas) Γ (.tup ds) := fun F0 H0 F H σ o Q q => h F0 H0 F H σ o _ fun vs F1 H1 g1 r1 =>
  ⟨by rw [r1.len]; exact Nat.le_trans hl (by decide), fun p hp => by
    have g2 := Gr.new (o := .tup vs) g1.s hp
    exact q _ _ _ (g1.trans g2) (.tup (.inl (.inl upd_same)) (r1.mono g2.f))⟩
theorem ew_lst (h : Ea K tas Γ ds) (hl : ds.length ≤ 100000 := by exact Nat.le_of_ble_eq_true rfl) : Ew K (tLst tas) Γ ds := fun F0 H0 F H σ o Q q => h F0 H0 F H σ o _ fun vs F1 H1 g1 r1 =>
  ⟨by rw [r1.len]; exact Nat.le_trans hl (by decide), fun p hp => by
    have g2 := Gr.newO (o := .lst vs) g1.s hp
    exact q p vs F1 _ (g1.trans g2) (g1.h.free hp) (g1.s.free hp) upd_same r1⟩
/-- a new list frozen -/
theorem ed_ow (h : Ew K te Γ ds) : Ed K te Γ (.lst ds) := fun F0 H0 F H σ o Q q => h F0 H0 F H σ o _ fun p vs F1 H1 g1 hp hf h1 r1 => by
  have sF : Same F1 (upd F1 p (.lst vs)) := same_upd hf
  have g : Gr F H (upd F1 p (.lst vs)) H1 := ⟨g1.f.trans sF, fun x y e => by
    by_cases hx : x = p
    · subst hx; rw [upd_same] at e; cases e; exact h1
    · rw [upd_ne hx] at e; exact g1.s x y e, g1.h, fun x a b => by
    have hx : x ≠ p := fun z => b (by rw [z]; exact hp)
    rw [upd_ne hx]; exact g1.n x a b⟩
  exact q _ _ _ g (.lst upd_same (r1.mono sF))
theorem ed_dct : Ed K tDNewK Γ .dct := fun F0 H0 F H σ o Q q => fun p hp => by
  have g := Gr.new (o := .dK []) o.g.s hp
  exact q _ _ _ g (.dct upd_same)
theorem ed_lst (h : Ea K tas Γ ds) (hl : ds.length ≤ 100000 := by exact Nat.le_of_ble_eq_true rfl) : Ed K (tLst tas) Γ (.lst ds) := ed_ow (ew_lst h hl)
end

/-! ### statements -/
inductive Oc where
  | nx (Γ : Gam) | rt (d : D) | lp (Γ : Gam) | ex (C : Addr)
def Fin (K : PySem.W.Frag) (E : XK) (De : Ends) (F0 H0 Fs : Hp) : Oc → Prop
  | .nx Γ => ∀ F H σ, Same Fs F → Ok K F0 H0 F H σ Γ → De.nx σ H
  | .lp Γ => (∀ F H σ, Same Fs F → Ok K F0 H0 F H σ Γ → De.nx σ H) ∧ (∀ F H σ, Same Fs F → Ok K F0 H0 F H σ Γ → De.ct σ H)
  | .rt d => ∀ v F H, Gr F0 H0 F H → Rp K F v d → De.rt v H
  | .ex C => ∀ F H, Gr F0 H0 F H → E (.ref C) none H
/-- the end leaves the loop or the block -/
def Oc.out : Oc → Bool
  | .rt _ | .ex _ => true
  | _ => false
theorem Fin.mono {K : PySem.W.Frag} {E : XK} {De : Ends} {F0 H0 Fs Fs' : Hp} {o : Oc} (h : Fin K E De F0 H0 Fs o) (e : Same Fs Fs') : Fin K E De F0 H0 Fs' o := by
  cases o with
  | nx Γ => exact fun F H σ a b => h F H σ (e.trans a) b
  | lp Γ => exact ⟨fun F H σ a b => h.1 F H σ (e.trans a) b, fun F H σ a b => h.2 F H σ (e.trans a) b⟩
  | rt d => exact h
  | ex C => exact h
theorem Fin.out {K : PySem.W.Frag} {E : XK} {De De' : Ends} {F0 H0 Fs Fs' : Hp} {o : Oc} (h : Fin K E De F0 H0 Fs o) (ho : o.out = true) (e : De'.rt = De.rt) : Fin K E De' F0 H0 Fs' o := by
  cases o with
  | nx => cases ho
  | lp => cases ho
  | rt d => intro v F H g r; rw [e]; exact h v F H g r
  | ex C => exact h
def Sd (K : PySem.W.Frag) (E : XK) (ts : TS) (Γ : Gam) (o : Oc) : Prop := ∀ (F0 H0 F H : Hp) (σ : L2.St) (De : Ends), Ok K F0 H0 F H σ Γ → Fin K E De F0 H0 F o → ts De σ H
/-- a target takes a value -/
def Eg (K : PySem.W.Frag) (g : TG) (js : List Nat) (d : D) (Γ Γ' : Gam) : Prop := ∀ (F0 H0 F H : Hp) (σ : L2.St) (v : V), Ok K F0 H0 F H σ Γ → Rp K F v d → ∀ Q : L2.St → Hp → Prop,
  (∀ σ', Ok K F0 H0 F H σ' Γ' → (∀ vs : List Nat, (∀ j ∈ js, j ∈ vs) → L2.wipe σ' vs = L2.wipe σ vs) → Q σ' H) → g v σ H Q
def Egs (K : PySem.W.Frag) (g : TGs) (js : List Nat) (ds : List D) (Γ Γ' : Gam) : Prop := ∀ (F0 H0 F H : Hp) (σ : L2.St) (vs : List V), Ok K F0 H0 F H σ Γ → RpA K F vs ds → ∀ Q : L2.St → Hp → Prop,
  (∀ σ', Ok K F0 H0 F H σ' Γ' → (∀ vs : List Nat, (∀ j ∈ js, j ∈ vs) → L2.wipe σ' vs = L2.wipe σ vs) → Q σ' H) → g vs σ H Q
section
variable {K : PySem.W.Frag} {E : XK} {Γ Γ' Γ1 Γ2 : Gam} {ta tb te tx : TE} {t u : TT} {d dx dy : D} {ds es : List D} {tas tr : TA} {ts tu : TS} {o : Oc} {g : TG} {gs : TGs} {js ks : List Nat} {C : Addr}
theorem eg_name (i : Nat) : Eg K (gName i) [i] d Γ (Γ.set i (.fz d)) := fun F0 H0 F H σ v ok r Q q => q _ (ok.set r) fun vs h => wipe_set (h i List.mem_cons_self)
theorem egs_nil : Egs K gNil [] [] Γ Γ := fun F0 H0 F H σ vs ok r Q q => by
  cases r
  exact ⟨rfl, q σ ok fun _ _ => rfl⟩
theorem egs_cons (h1 : Eg K g js d Γ Γ1) (h2 : Egs K gs ks ds Γ1 Γ2) : Egs K (gCons g gs) (js ++ ks) (d :: ds) Γ Γ2 := fun F0 H0 F H σ vs ok r Q q => by
  cases r with
  | cons r1 r2 =>
    exact ⟨_, _, rfl, h1 F0 H0 F H σ _ ok r1 _ fun σ1 ok1 w1 => h2 F0 H0 F H σ1 _ ok1 r2 Q fun σ2 ok2 w2 => q σ2 ok2 fun vs h =>
      (w2 vs fun j hj => h j (List.mem_append_right _ hj)).trans (w1 vs fun j hj => h j (List.mem_append_left _ hj))⟩
theorem eg_tup {n : Nat} (h : Egs K gs js ds Γ Γ') (hn : ds.length = n) : Eg K (gTup K n gs) js (.tup ds) Γ Γ' := fun F0 H0 F H σ v ok r Q q => by
  cases r with
  | @tup a xs _ hs ha => exact ⟨a, xs, rfl, sqt_mono ok.g.s hs, by rw [ha.len]; exact hn, h F0 H0 F H σ xs ok ha Q q⟩
theorem eg_lst {n : Nat} (h : Egs K gs js ds Γ Γ') (hn : ds.length = n) : Eg K (gLst K n gs) js (.lst ds) Γ Γ' := fun F0 H0 F H σ v ok r Q q => by
  cases r with
  | @lst a xs _ hs ha => exact ⟨a, xs, rfl, .inl (.inl (ok.g.s _ _ hs)), by rw [ha.len]; exact hn, h F0 H0 F H σ xs ok ha Q q⟩

theorem Sd.le (h : Sd K E ts Γ' o) (l : Le Γ Γ') : Sd K E ts Γ o := fun F0 H0 F H σ De ok fin => h F0 H0 F H σ De (ok.le l) fin
theorem Sd.toLp (h : Sd K E ts Γ (.nx Γ')) : Sd K E ts Γ (.lp Γ') := fun F0 H0 F H σ De ok fin => h F0 H0 F H σ De ok fin.1
theorem Sd.nxLe (h : Sd K E ts Γ (.nx Γ1)) (l : Le Γ1 Γ2) : Sd K E ts Γ (.nx Γ2) := fun F0 H0 F H σ De ok fin => h F0 H0 F H σ De ok fun F1 H1 σ1 e1 ok1 => fin F1 H1 σ1 e1 (ok1.le l)
theorem Sd.lpLe (h : Sd K E ts Γ (.lp Γ1)) (l : Le Γ1 Γ2) : Sd K E ts Γ (.lp Γ2) := fun F0 H0 F H σ De ok fin => h F0 H0 F H σ De ok ⟨fun F1 H1 σ1 e1 ok1 => fin.1 F1 H1 σ1 e1 (ok1.le l), fun F1 H1 σ1 e1 ok1 => fin.2 F1 H1 σ1 e1 (ok1.le l)⟩
theorem sd_is {o' : Oc} (h : Sd K E ts Γ o) (e : o = o') : Sd K E ts Γ o' := e ▸ h
theorem sd_next : Sd K E tNext Γ (.nx Γ) := fun F0 H0 F H σ De ok fin => fin F H σ (Same.refl F) ok
theorem sd_seq (h1 : Sd K E ts Γ (.nx Γ1)) (h2 : Sd K E tu Γ1 o) : Sd K E (tSeq ts tu) Γ o := fun F0 H0 F H σ De ok fin => h1 F0 H0 F H σ _ ok fun F1 H1 σ1 e1 ok1 => h2 F0 H0 F1 H1 σ1 De ok1 (fin.mono e1)
theorem sd_stop (h1 : Sd K E ts Γ o) (ho : o.out = true) : Sd K E (tSeq ts tu) Γ o := fun F0 H0 F H σ De ok fin => h1 F0 H0 F H σ _ ok (fin.out ho rfl)
theorem sd_if {b : Bool} (h : Et K t Γ b) (h1 : b = true → Sd K E ts Γ o) (h2 : b = false → Sd K E tu Γ o) : Sd K E (tIfS t ts tu) Γ o := fun F0 H0 F H σ De ok fin => h F0 H0 F H σ ok _ fun F1 H1 g1 => by
  cases b with
  | true => exact h1 rfl F0 H0 F1 H1 σ De (ok.grow g1) (fin.mono g1.f)
  | false => exact h2 rfl F0 H0 F1 H1 σ De (ok.grow g1) (fin.mono g1.f)
theorem sd_ifT (h : Et K t Γ true) (h1 : Sd K E ts Γ o) : Sd K E (tIfS t ts tu) Γ o := sd_if h (fun _ => h1) fun z => nomatch z
theorem sd_ifF (h : Et K t Γ false) (h1 : Sd K E tu Γ o) : Sd K E (tIfS t ts tu) Γ o := sd_if h (fun z => nomatch z) fun _ => h1
theorem sd_set (i : Nat) (h : Ed K te Γ d) : Sd K E (tAsg te (gName i)) Γ (.nx (Γ.set i (.fz d))) := fun F0 H0 F H σ De ok fin => h F0 H0 F H σ ok _ fun v F1 H1 g1 r1 => fin F1 H1 _ g1.f ((ok.grow g1).set r1)
theorem sd_asg (h : Ed K te Γ d) (hg : Eg K g js d Γ Γ') : Sd K E (tAsg te g) Γ (.nx Γ') := fun F0 H0 F H σ De ok fin => h F0 H0 F H σ ok _ fun v F1 H1 g1 r1 => hg F0 H0 F1 H1 σ v (ok.grow g1) r1 _ fun σ' ok' _ => fin F1 H1 σ' g1.f ok'
theorem sd_par {i j : Nat} {d1 d2 : D} (h : Ea K tas Γ [d1, d2]) : Sd K E (tPar i j tas) Γ (.nx ((Γ.set i (.fz d1)).set j (.fz d2))) := fun F0 H0 F H σ De ok fin => h F0 H0 F H σ ok _ fun vs F1 H1 g1 r1 => by
  cases r1 with
  | cons r1 rr =>
    cases rr with
    | cons r2 rr =>
      cases rr
      exact ⟨_, _, rfl, fin F1 H1 _ g1.f (((ok.grow g1).set r1).set r2)⟩
theorem sd_ret (h : Ed K te Γ d) : Sd K E (tRet te) Γ (.rt d) := fun F0 H0 F H σ De ok fin => h F0 H0 F H σ ok _ fun v F1 H1 g1 r1 => fin v F1 H1 (ok.g.trans g1) r1
theorem sd_drop (h : Ed K te Γ d) : Sd K E (tDrop te) Γ (.nx Γ) := fun F0 H0 F H σ De ok fin => h F0 H0 F H σ ok _ fun v F1 H1 g1 r1 => fin F1 H1 σ g1.f (ok.grow g1)
theorem sd_retN : Sd K E tRetN Γ (.rt .non) := fun F0 H0 F H σ De ok fin => fin _ F H ok.g .non
theorem sd_cont : Sd K E tCont Γ (.lp Γ) := fun F0 H0 F H σ De ok fin => fin.2 F H σ (Same.refl F) ok
/-- raises -/
theorem sd_retX (h : Xd K E te Γ C) : Sd K E (tRet te) Γ (.ex C) := fun F0 H0 F H σ De ok fin => h F0 H0 F H σ ok (fun F1 H1 g1 => fin F1 H1 (ok.g.trans g1)) _
theorem sd_setX (h : Xd K E te Γ C) : Sd K E (tAsg te g) Γ (.ex C) := fun F0 H0 F H σ De ok fin => h F0 H0 F H σ ok (fun F1 H1 g1 => fin F1 H1 (ok.g.trans g1)) _
theorem sd_dropX (h : Xd K E te Γ C) : Sd K E (tDrop te) Γ (.ex C) := fun F0 H0 F H σ De ok fin => h F0 H0 F H σ ok (fun F1 H1 g1 => fin F1 H1 (ok.g.trans g1)) _
theorem sd_raise : Sd K E (fun _ σ H => (fun _ H' (Q : XK) => Q (.ref C) none H') σ H fun cls d H' => E cls d H') Γ (.ex C) := fun F0 H0 F H σ De ok fin => fin F H ok.g
theorem xa_head (h : Xd K E ta Γ C) : Xa K E (tCons ta tr) Γ C := fun F0 H0 F H σ ok fin Q => h F0 H0 F H σ ok fin _
theorem xa_tail (h : Ed K ta Γ d) (hr : Xa K E tr Γ C) : Xa K E (tCons ta tr) Γ C := fun F0 H0 F H σ ok fin Q => h F0 H0 F H σ ok _ fun v F1 H1 g1 r1 => hr F0 H0 F1 H1 σ (ok.grow g1) (fun F2 H2 g2 => fin F2 H2 (g1.trans g2)) _
theorem xd_tup (h : Xa K E tas Γ C) : Xd K E (tTup tas) Γ C := fun F0 H0 F H σ ok fin Q => h F0 H0 F H σ ok fin _
theorem xd_lst (h : Xa K E tas Γ C) : Xd K E (tLst tas) Γ C := fun F0 H0 F H σ ok fin Q => h F0 H0 F H σ ok fin _
theorem xd_opL {r : R2} (h : Xd K E ta Γ C) : Xd K E (tOp r ta tb) Γ C := fun F0 H0 F H σ ok fin Q => h F0 H0 F H σ ok fin _
theorem xd_opR {r : R2} (h1 : Ed K ta Γ d) (h : Xd K E tb Γ C) : Xd K E (tOp r ta tb) Γ C := fun F0 H0 F H σ ok fin Q => h1 F0 H0 F H σ ok _ fun v F1 H1 g1 r1 => h F0 H0 F1 H1 σ (ok.grow g1) (fun F2 H2 g2 => fin F2 H2 (g1.trans g2)) _
/-- owned lists -/
theorem sd_setW (i : Nat) (h : Ew K te Γ ds) : Sd K E (tAsg te (gName i)) Γ (.nx (Γ.set i (.ow ds))) := fun F0 H0 F H σ De ok fin => h F0 H0 F H σ ok _ fun p vs F1 H1 g1 hp hf h1 r1 => by
  refine fin F1 H1 _ g1.f ?_
  have ok1 := ok.grow g1
  have h0 : H0 p = none := ok.g.h.free hp
  have old : ∀ (j : Nat) (es : List D) (q : Addr), Γ[j]? = some (.ow es) → σ[j]? = some (some (.ref q)) → q ≠ p := fun j es q a b => by
    obtain ⟨q', ws, a', b', _⟩ := ok.ow j es a
    rw [b] at a'
    cases a'
    exact ne_of_none b' hp
  refine ⟨ok1.g, by simpa using ok.len, fun j e h => ?_, fun j es h => ?_, fun j k es fs q hjk h1 h2 h3 h4 => ?_⟩
  · rcases set_get h with ⟨rfl, q⟩ | ⟨n, q⟩
    · cases q
    · rw [List.getElem?_set_ne n]
      exact ok1.fz j e q
  · rcases set_get h with ⟨rfl, q⟩ | ⟨n, q⟩
    · cases q
      exact ⟨p, vs, set_at ok.len h, h1, hf, h0, r1⟩
    · rw [List.getElem?_set_ne n]
      exact ok1.ow j es q
  · rcases set_get h1 with ⟨e1, x1⟩ | ⟨n1, q1⟩
    · subst e1
      rw [set_at ok.len h1] at h3
      cases h3
      rcases set_get h2 with ⟨e2, _⟩ | ⟨n2, q2⟩
      · exact hjk e2
      · rw [List.getElem?_set_ne n2] at h4
        exact old k fs p q2 h4 rfl
    · rw [List.getElem?_set_ne n1] at h3
      rcases set_get h2 with ⟨e2, x2⟩ | ⟨n2, q2⟩
      · subst e2
        rw [set_at ok.len h2] at h4
        cases h4
        exact old j es p q1 h3 rfl
      · rw [List.getElem?_set_ne n2] at h4
        exact ok.ap j k es fs q hjk q1 q2 h3 h4
theorem sd_freeze (i : Nat) (hi : Γ[i]? = some (.ow ds)) (h : Sd K E ts (Γ.set i (.fz (.lst ds))) o) : Sd K E ts Γ o := fun F0 H0 F H σ De ok fin => by
  obtain ⟨F', g, sf, ok'⟩ := ok.freeze hi
  exact h F0 H0 F' H σ De ok' (fin.mono sf)
theorem tyV_list {H : Hp} {p : Addr} {vs : List V} (h : H p = some (.lst vs)) : tyV K "list" (.ref p) H := .inl ⟨rfl, vs, .inl (.inl h)⟩
theorem sd_app (i : Nat) (hi : Γ[i]? = some (.ow ds)) (h : Ed K te Γ d) (hl : ds.length < 100000) : Sd K E (tDrop (tBM K "list" rAppend (tVar i) (tCons te tNil))) Γ (.nx (Γ.set i (.ow (ds ++ [d])))) := fun F0 H0 F H σ De ok fin => by
  obtain ⟨p, vs, a, b, c, e, r⟩ := ok.ow i ds hi
  refine ⟨.ref p, a, tyV_list b, ?_⟩
  refine h F0 H0 F H σ ok _ fun v F1 H1 g1 r1 => ?_
  obtain ⟨c1, b1⟩ := g1.out c b
  refine ⟨p, vs, v, rfl, rfl, b1, Nat.lt_of_lt_of_le (by rw [r.len]; exact hl) (by decide), ?_⟩
  exact fin F1 _ σ g1.f ((ok.grow g1).upOw hi a ((r.mono g1.f).append (.one r1)))
theorem sd_ext (i : Nat) (hi : Γ[i]? = some (.ow ds)) (h : Ed K te Γ (.lst es)) (hl : ds.length + es.length ≤ 100000) : Sd K E (tDrop (tBM K "list" rExtend (tVar i) (tCons te tNil))) Γ (.nx (Γ.set i (.ow (ds ++ es)))) := fun F0 H0 F H σ De ok fin => by
  obtain ⟨p, vs, a, b, c, e, r⟩ := ok.ow i ds hi
  refine ⟨.ref p, a, tyV_list b, ?_⟩
  refine h F0 H0 F H σ ok _ fun v F1 H1 g1 r1 => ?_
  obtain ⟨c1, b1⟩ := g1.out c b
  cases r1 with
  | @lst q ws _ hq rq =>
    refine ⟨p, q, vs, ws, rfl, rfl, b1, g1.s _ _ hq, Nat.le_trans (by rw [r.len, rq.len]; exact hl) (by decide), ?_⟩
    exact fin F1 _ σ g1.f ((ok.grow g1).upOw hi a ((r.mono g1.f).append rq))
/-- while -/
inductive LoopW (K : PySem.W.Frag) (E : XK) (t : TT) (ts : TS) : Nat → Gam → Oc → Prop
  | done {Γ : Gam} : Et K t Γ false → LoopW K E t ts 0 Γ (.nx Γ)
  | step {n : Nat} {Γ Γ1 : Gam} {o : Oc} : Et K t Γ true → Sd K E ts Γ (.lp Γ1) → LoopW K E t ts n Γ1 o → LoopW K E t ts (n + 1) Γ o
  | out {Γ : Gam} {o : Oc} : Et K t Γ true → Sd K E ts Γ o → o.out = true → LoopW K E t ts 1 Γ o
theorem sd_while {n : Nat} (h : LoopW K E t ts n Γ o) : Sd K E (tWhile t ts) Γ o := fun F0 H0 F H σ De ok fin =>
  ⟨fun m σ H => ∃ Γ F', LoopW K E t ts m Γ o ∧ Same F F' ∧ Ok K F0 H0 F' H σ Γ, ⟨n, Γ, F, h, Same.refl F, ok⟩, fun m σ1 H1 ⟨Γ1, F1, l, s1, ok1⟩ => by
    cases l with
    | done ht => exact ht F0 H0 F1 H1 σ1 ok1 _ fun F2 H2 g2 => fin F2 H2 σ1 (s1.trans g2.f) (ok1.grow g2)
    | @step k _ Γ2 _ ht hs hl =>
      refine ht F0 H0 F1 H1 σ1 ok1 _ fun F2 H2 g2 => ?_
      refine ⟨fun σ H => ∃ F', Same F F' ∧ Ok K F0 H0 F' H σ Γ2, fun σ' H' ⟨F', s', ok'⟩ => ⟨k, Nat.lt_succ_self k, Γ2, F', hl, s', ok'⟩, ?_⟩
      exact hs F0 H0 F2 H2 σ1 _ (ok1.grow g2) ⟨fun F3 H3 σ3 e3 ok3 => ⟨F3, (s1.trans g2.f).trans e3, ok3⟩, fun F3 H3 σ3 e3 ok3 => ⟨F3, (s1.trans g2.f).trans e3, ok3⟩⟩
    | out ht hs ho =>
      refine ht F0 H0 F1 H1 σ1 ok1 _ fun F2 H2 g2 => ?_
      exact ⟨fun _ _ => False, fun _ _ z => z.elim, hs F0 H0 F2 H2 σ1 _ (ok1.grow g2) (fin.out ho rfl)⟩⟩
/-- what a for walks -/
structure Wk (K : PySem.W.Frag) (J : It) (F : Hp) (ds : List D) : Prop where
  go : ∀ i F2 H2, Same F F2 → Same F2 H2 → i < ds.length → J.go i H2
  st : ∀ F2 H2, Same F F2 → Same F2 H2 → J.stop ds.length H2
  yl : ∀ i x F2 H2 H3, Same F F2 → Same F2 H2 → i < ds.length → J.yld i H2 x H3 → ∃ F3 d, Gr F2 H2 F3 H3 ∧ ds[i]? = some d ∧ Rp K F3 x d
def Ei (K : PySem.W.Frag) (wi : TI) (Γ : Gam) (ds : List D) : Prop := ∀ (F0 H0 F H : Hp) (σ : L2.St), Ok K F0 H0 F H σ Γ → ∀ R : It → Hp → Prop, (∀ J F1 H1, Gr F H F1 H1 → Wk K J F1 ds → R J H1) → wi σ H R
theorem Wk.mono {J : It} {F F' : Hp} (w : Wk K J F ds) (e : Same F F') : Wk K J F' ds :=
  ⟨fun i F2 H2 a b c => w.go i F2 H2 (e.trans a) b c, fun F2 H2 a b => w.st F2 H2 (e.trans a) b, fun i x F2 H2 H3 a b c d => w.yl i x F2 H2 H3 (e.trans a) b c d⟩
inductive LoopF (K : PySem.W.Frag) (E : XK) (g : TG) (ts : TS) : List D → Gam → Oc → Prop
  | done {Γ : Gam} : LoopF K E g ts [] Γ (.nx Γ)
  | step {Γ Γ1 Γ2 : Gam} {js : List Nat} {d : D} {ds : List D} {o : Oc} : Eg K g js d Γ Γ1 → Sd K E ts Γ1 (.lp Γ2) → LoopF K E g ts ds Γ2 o → LoopF K E g ts (d :: ds) Γ o
  | out {Γ Γ1 : Gam} {js : List Nat} {d : D} {ds : List D} {o : Oc} : Eg K g js d Γ Γ1 → Sd K E ts Γ1 o → o.out = true → LoopF K E g ts (d :: ds) Γ o
  | le {Γ Γ1 : Gam} {ds : List D} {o : Oc} : Le Γ Γ1 → LoopF K E g ts ds Γ1 o → LoopF K E g ts ds Γ o
theorem LoopF.turn {F0 H0 F H : Hp} {σ : L2.St} {o : Oc} {ds : List D} {Γ : Gam} (l : LoopF K E g ts ds Γ o) : Ok K F0 H0 F H σ Γ →
    (ds = [] ∧ ∃ Γ1, o = .nx Γ1 ∧ Ok K F0 H0 F H σ Γ1) ∨ (∃ d r Γ0 Γ1 Γ2 js, ds = d :: r ∧ Ok K F0 H0 F H σ Γ0 ∧ Eg K g js d Γ0 Γ1 ∧ Sd K E ts Γ1 (.lp Γ2) ∧ LoopF K E g ts r Γ2 o) ∨ (∃ d r Γ0 Γ1 js, ds = d :: r ∧ Ok K F0 H0 F H σ Γ0 ∧ Eg K g js d Γ0 Γ1 ∧ Sd K E ts Γ1 o ∧ o.out = true) := by
  induction l with
  | done => exact fun ok => .inl ⟨rfl, _, rfl, ok⟩
  | step a b c _ => exact fun ok => .inr (.inl ⟨_, _, _, _, _, _, rfl, ok, a, b, c⟩)
  | out a b c => exact fun ok => .inr (.inr ⟨_, _, _, _, _, rfl, ok, a, b, c⟩)
  | le l _ ih => exact fun ok => ih (ok.le l)
theorem loopF_same {Pd : D → Prop} (h : ∀ x, Pd x → ∃ js Γ1, Eg K g js x Γ Γ1 ∧ Sd K E ts Γ1 (.lp Γ)) : ∀ ds : List D, (∀ x ∈ ds, Pd x) → LoopF K E g ts ds Γ (.nx Γ)
  | [], _ => .done
  | d :: ds, hd => by
    obtain ⟨js, Γ1, a, b⟩ := h d (hd d List.mem_cons_self)
    exact .step a b (loopF_same h ds fun x hx => hd x (List.mem_cons_of_mem _ hx))
theorem sd_for {wi : TI} (hw : Ei K wi Γ ds) (h : LoopF K E g ts ds Γ o) : Sd K E (tFor wi g ts) Γ o := fun F0 H0 F H σ De ok fin =>
  hw F0 H0 F H σ ok _ fun J F1 H1 g1 wk =>
    ⟨fun i m σ H => ∃ Γ F, m = ds.length - i ∧ i ≤ ds.length ∧ LoopF K E g ts (ds.drop i) Γ o ∧ Same F1 F ∧ Ok K F0 H0 F H σ Γ, ⟨ds.length, Γ, F1, rfl, Nat.zero_le _, h, Same.refl _, ok.grow g1⟩, by
      rintro i m σ2 H2 ⟨Γ2, F2, rfl, hi, l, s2, ok2⟩
      have out : ∀ {d : D} {r : List D}, ds.drop i = d :: r → i < ds.length ∧ ds[i]? = some d ∧ ds.drop (i + 1) = r := fun {d r} e => by
        have hlt : i < ds.length := by
          rcases Nat.lt_or_ge i ds.length with z | z
          · exact z
          · rw [List.drop_of_length_le z] at e
            cases e
        rw [List.drop_eq_getElem_cons hlt] at e
        cases e
        exact ⟨hlt, List.getElem?_eq_getElem hlt, rfl⟩
      rcases l.turn ok2 with ⟨e, Γ3, rfl, ok3⟩ | ⟨d, r, Γ0, Γ3, Γ4, js, e, ok3, hg, hs, hl⟩ | ⟨d, r, Γ0, Γ3, js, e, ok3, hg, hs, ho⟩
      · have hn : i = ds.length := by
          have z := congrArg List.length e
          rw [List.length_drop] at z
          simp only [List.length_nil] at z
          omega
        subst hn
        exact .inl ⟨wk.st F2 H2 s2 ok2.g.s, fin F2 H2 σ2 (g1.f.trans s2) ok3⟩
      · obtain ⟨hlt, hd, hr⟩ := out e
        refine .inr ⟨wk.go i F2 H2 s2 ok2.g.s hlt, fun σ H => ∃ F, Same F1 F ∧ Ok K F0 H0 F H σ Γ4, fun σ' H' ⟨F', a, b⟩ => ⟨ds.length - (i + 1), by omega, Γ4, F', rfl, by omega, by rw [hr]; exact hl, a, b⟩, fun x H3 hy => ?_⟩
        obtain ⟨F3, d', g3, hd', rx⟩ := wk.yl i x F2 H2 H3 s2 ok2.g.s hlt hy
        rw [hd] at hd'
        cases hd'
        refine hg F0 H0 F3 H3 σ2 x (ok3.grow g3) rx _ fun σ4 ok4 _ => ?_
        have base : Same F1 F3 := s2.trans g3.f
        exact hs F0 H0 F3 H3 σ4 _ ok4 ⟨fun F5 H5 σ5 e5 ok5 => ⟨F5, base.trans e5, ok5⟩, fun F5 H5 σ5 e5 ok5 => ⟨F5, base.trans e5, ok5⟩⟩
      · obtain ⟨hlt, hd, hr⟩ := out e
        refine .inr ⟨wk.go i F2 H2 s2 ok2.g.s hlt, fun _ _ => False, fun _ _ z => z.elim, fun x H3 hy => ?_⟩
        obtain ⟨F3, d', g3, hd', rx⟩ := wk.yl i x F2 H2 H3 s2 ok2.g.s hlt hy
        rw [hd] at hd'
        cases hd'
        refine hg F0 H0 F3 H3 σ2 x (ok3.grow g3) rx _ fun σ4 ok4 _ => ?_
        exact hs F0 H0 F3 H3 σ4 _ ok4 (fin.out ho rfl)⟩
end
end DL

namespace DL
open PySem PySem.Spec PyProof.Rows L2
section
variable {K : PySem.W.Frag} {E : XK} {Γ Γ' Γ1 Γ2 : Gam} {ta tb te tx tl : TE} {t u : TT} {d dx dy : D} {ds es : List D} {tas tr : TA} {ts tu : TS} {o : Oc} {g : TG} {gs : TGs} {js ks : List Nat} {C : Addr}
theorem et_yes : Et K tYes Γ true := fun F0 H0 F H σ ok Q q => q F H (Gr.refl ok.g.s)
/-! ### walks -/
theorem wk_list {F : Hp} {a : Addr} {xs : List V} (h : SqL K F a xs) (r : RpA K F xs ds) : Wk K (Itl K a) F ds where
  go := fun i F2 H2 e s hi => by
    obtain ⟨v, hv, _⟩ := r.get (List.getElem?_eq_getElem hi)
    exact ⟨xs, v, (e.trans s).seq h, hv⟩
  st := fun F2 H2 e s => ⟨xs, (e.trans s).seq h, Nat.le_of_eq r.len⟩
  yl := fun i x F2 H2 H3 e s hi y => by
    obtain ⟨rfl, y⟩ := y
    obtain ⟨d, hd, rd⟩ := r.getV (y xs ((e.trans s).seq h))
    exact ⟨F2, d, Gr.refl s, hd, rd.mono e⟩
theorem ei_list (h : Ed K tl Γ (.lst ds)) : Ei K (iList K tl) Γ ds := fun F0 H0 F H σ ok R k => h F0 H0 F H σ ok _ fun v F1 H1 g1 r1 => by
  cases r1 with
  | @lst a xs _ ha ra => exact ⟨a, rfl, ⟨xs, .inl (.inl (g1.s _ _ ha))⟩, k _ F1 H1 g1 (wk_list (.inl (.inl ha)) ra)⟩
theorem ei_scr {ns : List Int} (h : Ed K tl Γ (.scr ns)) : Ei K (iList K tl) Γ (ns.map .int) := fun F0 H0 F H σ ok R k => h F0 H0 F H σ ok _ fun v F1 H1 g1 r1 => by
  cases r1 with
  | @scr a _ ha => exact ⟨a, rfl, ⟨_, g1.s.seq ha⟩, k _ F1 H1 g1 (wk_list ha (.ofInts ns))⟩
theorem ei_tup (h : Ed K tl Γ (.tup ds)) : Ei K (iTup K tl) Γ ds := fun F0 H0 F H σ ok R k => h F0 H0 F H σ ok _ fun v F1 H1 g1 r1 => by
  cases r1 with
  | @tup a xs _ ha ra =>
    refine ⟨a, rfl, ⟨xs, sqt_mono g1.s ha⟩, k _ F1 H1 g1 ⟨fun i F2 H2 e s hi => ?_, fun F2 H2 e s => ⟨xs, sqt_mono (e.trans s) ha, Nat.le_of_eq ra.len⟩, fun i x F2 H2 H3 e s hi y => ?_⟩⟩
    · obtain ⟨v, hv, _⟩ := ra.get (List.getElem?_eq_getElem hi)
      exact ⟨xs, v, sqt_mono (e.trans s) ha, hv⟩
    · obtain ⟨rfl, y⟩ := y
      obtain ⟨d, hd, rd⟩ := ra.getV (y xs (sqt_mono (e.trans s) ha))
      exact ⟨F2, d, Gr.refl s, hd, rd.mono e⟩
def rg (lo : Int) (n : Nat) : List D := (List.range n).map fun i => .int (lo + (i : Nat))
theorem rg_len (lo : Int) (n : Nat) : (rg lo n).length = n := by simp [rg]
theorem wk_rng {F : Hp} {lo : Int} {n : Nat} : Wk K (Itr lo n) F (rg lo n) where
  go := fun i F2 H2 e s hi => by rw [rg_len] at hi; exact hi
  st := fun F2 H2 e s => Nat.le_of_eq (rg_len lo n).symm
  yl := fun i x F2 H2 H3 e s hi y => by
    obtain ⟨rfl, rfl⟩ := y
    rw [rg_len] at hi
    exact ⟨F2, .int (lo + (i : Nat)), Gr.refl s, by simp [rg, hi], .int _⟩
theorem ei_rng1 {n : Int} (h : Ea K tas Γ [.int n]) (hn : -(2 ^ 62) ≤ n ∧ n < 2 ^ 62) : Ei K (iRng1 tas) Γ (rg 0 n.toNat) := fun F0 H0 F H σ ok R k => h F0 H0 F H σ ok _ fun v F1 H1 g1 r1 => by
  have e := RpA.ints (ns := [n]) r1
  exact ⟨n, e, hn.1, hn.2, k _ F1 H1 g1 wk_rng⟩
theorem ei_rng2 {lo n : Int} (h : Ea K tas Γ [.int lo, .int n]) (hn : -(2 ^ 62) ≤ lo ∧ lo < 2 ^ 62 ∧ -(2 ^ 62) ≤ n ∧ n < 2 ^ 62) : Ei K (iRng2 tas) Γ (rg lo (n - lo).toNat) := fun F0 H0 F H σ ok R k => h F0 H0 F H σ ok _ fun v F1 H1 g1 r1 => by
  have e := RpA.ints (ns := [lo, n]) r1
  exact ⟨lo, n, e, hn, k _ F1 H1 g1 wk_rng⟩
def sgn (x : Str) : List D := x.cps.toList.map fun c => .str ⟨#[c]⟩
theorem ei_str {x : Str} (h : Ed K te Γ (.str x)) : Ei K (iStr te) Γ (sgn x) := fun F0 H0 F H σ ok R k => h F0 H0 F H σ ok _ fun v F1 H1 g1 r1 => by
  cases r1
  have hl : (sgn x).length = x.cps.size := by simp [sgn]
  refine ⟨x, rfl, k _ F1 H1 g1 ⟨fun i F2 H2 e s hi => by rw [hl] at hi; exact hi, fun F2 H2 e s => Nat.le_of_eq hl.symm, fun i y F2 H2 H3 e s hi z => ?_⟩⟩
  obtain ⟨rfl, c, hc, rfl⟩ := z
  refine ⟨F2, .str ⟨#[c]⟩, Gr.refl s, ?_, .str _⟩
  have hc' : x.cps.toList[i]? = some c := by rw [Array.getElem?_toList]; exact hc
  simp only [sgn, List.getElem?_map, hc', Option.map_some]
theorem pair_new {F2 H2 : Hp} {T : Addr} {x y : V} {d e : D} (s : Same F2 H2) (hT : H2 T = none) (rx : Rp K F2 x d) (ry : Rp K F2 y e) : ∃ F3, Gr F2 H2 F3 (upd H2 T (.tup [x, y])) ∧ Rp K F3 (.ref T) (.tup [d, e]) := by
  have g2 := Gr.new (o := .tup [x, y]) s hT
  exact ⟨_, g2, .tup (.inl (.inl upd_same)) (.cons (rx.mono g2.f) (.cons (ry.mono g2.f) .nil))⟩
def zp (ds es : List D) : List D := (ds.zip es).map fun p => .tup [p.1, p.2]
theorem wk_zip {F : Hp} {a b : Addr} {xs ys : List V} (h1 : SqL K F a xs) (r1 : RpA K F xs ds) (h2 : SqL K F b ys) (r2 : RpA K F ys es) : Wk K (Itz K a b) F (zp ds es) := by
  have hl : (zp ds es).length = min ds.length es.length := by simp [zp]
  refine ⟨fun i F2 H2 e s hi => ?_, fun F2 H2 e s => ⟨xs, ys, (e.trans s).seq h1, (e.trans s).seq h2, by rw [r1.len, r2.len, hl]; omega⟩, fun i x F2 H2 H3 e s hi y => ?_⟩
  · rw [hl] at hi
    obtain ⟨v, hv, _⟩ := r1.get (List.getElem?_eq_getElem (show i < ds.length by omega))
    obtain ⟨w, hw, _⟩ := r2.get (List.getElem?_eq_getElem (show i < es.length by omega))
    exact ⟨xs, ys, v, w, (e.trans s).seq h1, (e.trans s).seq h2, hv, hw⟩
  · obtain ⟨T, v, w, rfl, hT, rfl, k1, k2⟩ := y
    obtain ⟨d, hd, rd⟩ := r1.getV (k1 xs ((e.trans s).seq h1))
    obtain ⟨d', hd', rd'⟩ := r2.getV (k2 ys ((e.trans s).seq h2))
    obtain ⟨F3, g3, rp⟩ := pair_new s hT (rd.mono e) (rd'.mono e)
    refine ⟨F3, _, g3, ?_, rp⟩
    have z : (ds.zip es)[i]? = some (d, d') := by
      rw [List.getElem?_zip_eq_some]
      exact ⟨hd, hd'⟩
    simp only [zp, List.getElem?_map, z, Option.map_some]
theorem ei_zip (h : Ea K tas Γ [.lst ds, .lst es]) : Ei K (iZip K tas) Γ (zp ds es) := fun F0 H0 F H σ ok R k => h F0 H0 F H σ ok _ fun v F1 H1 g1 r1 => by
  cases r1 with
  | cons ra rr =>
    cases rr with
    | cons rb rr =>
      cases rr
      cases ra with
      | @lst a xs _ ha ra =>
        cases rb with
        | @lst b ys _ hb rb => exact ⟨a, b, xs, ys, rfl, .inl (.inl (g1.s _ _ ha)), .inl (.inl (g1.s _ _ hb)), k _ F1 H1 g1 (wk_zip (.inl (.inl ha)) ra (.inl (.inl hb)) rb)⟩
def en (ds : List D) : List D := (ds.zipIdx).map fun p => .tup [.int (p.2 : Nat), p.1]
theorem ei_enum (h : Ea K tas Γ [.lst ds]) : Ei K (iEnum K tas) Γ (en ds) := fun F0 H0 F H σ ok R k => h F0 H0 F H σ ok _ fun v F1 H1 g1 r1 => by
  cases r1 with
  | cons ra rr =>
    cases rr
    cases ra with
    | @lst a xs _ ha ra =>
      have hl : (en ds).length = ds.length := by simp [en]
      refine ⟨a, xs, rfl, .inl (.inl (g1.s _ _ ha)), k _ F1 H1 g1 ⟨fun i F2 H2 e s hi => ?_, fun F2 H2 e s => ⟨xs, .inl (.inl ((e.trans s) _ _ ha)), by rw [ra.len, hl]; exact Nat.le_refl _⟩, fun i x F2 H2 H3 e s hi y => ?_⟩⟩
      · rw [hl] at hi
        obtain ⟨v, hv, _⟩ := ra.get (List.getElem?_eq_getElem hi)
        exact ⟨xs, v, .inl (.inl ((e.trans s) _ _ ha)), hv⟩
      · obtain ⟨T, v, rfl, hT, rfl, k1⟩ := y
        obtain ⟨d, hd, rd⟩ := ra.getV (k1 xs (.inl (.inl ((e.trans s) _ _ ha))))
        obtain ⟨F3, g3, rp⟩ := pair_new (x := .int (i : Nat)) (d := .int (i : Nat)) s hT (.int _) (rd.mono e)
        refine ⟨F3, _, g3, ?_, rp⟩
        simp [en, List.getElem?_zipIdx, hd]
theorem ei_rev (h : Ea K tas Γ [.lst ds]) : Ei K (iRev K tas) Γ ds.reverse := fun F0 H0 F H σ ok R k => h F0 H0 F H σ ok _ fun v F1 H1 g1 r1 => by
  cases r1 with
  | cons ra rr =>
    cases rr
    cases ra with
    | @lst a xs _ ha ra =>
      have w := @walk_rev K a xs
      refine ⟨a, xs, rfl, .inl (.inl (g1.s _ _ ha)), k _ F1 H1 g1 ⟨fun i F2 H2 e s hi => w.goes i H2 (by rw [ra.len]; simpa using hi) (.inl (.inl ((e.trans s) _ _ ha))), fun F2 H2 e s => ?_, fun i x F2 H2 H3 e s hi y => ?_⟩⟩
      · have z := w.stops H2 (.inl (.inl ((e.trans s) _ _ ha)))
        rw [ra.len] at z
        rw [List.length_reverse]
        rw [ra.len]
        exact z
      · have hi' : i < xs.length := by rw [ra.len]; simpa using hi
        obtain ⟨rfl, q⟩ := w.yields i H2 x H3 hi' (.inl (.inl ((e.trans s) _ _ ha))) y
        obtain ⟨d, hd, rd⟩ := ra.getV q
        refine ⟨F2, d, Gr.refl s, ?_, rd.mono e⟩
        rw [List.getElem?_reverse (by simpa using hi)]
        rw [← ra.len]
        exact hd
/-! ### comprehensions -/
theorem ew_lc {α : Type} {wi : TI} {vs : List Nat} (xs : List α) (enc : α → D) (b : α → Bool) (f : α → D) (hw : Ei K wi Γ (xs.map enc)) (hl : xs.length ≤ 100000)
    (h : ∀ x ∈ xs, ∃ js Γ1, Eg K g js (enc x) (wipeG Γ vs) Γ1 ∧ (∀ j ∈ js, j ∈ vs) ∧ Et K t Γ1 (b x) ∧ (b x = true → Ed K te Γ1 (f x))) : Ew K (tLc wi g t te vs) Γ ((xs.filter b).map f) := fun F0 H0 F H σ ok Q q =>
  hw F0 H0 F H σ ok _ fun J F1 H1 g1 wk D hD => by
    have hDH : H D = none := g1.h.free hD
    have hDF : F1 D = none := g1.s.free hD
    have set : ∀ {F' H' : Hp} {ws : List V}, Gr F H F' H' → F' D = none → Gr F H F' (upd H' D (.lst ws)) := fun {F' H' ws} g hf =>
      ⟨g.f, fun x y e => by rw [upd_ne (ne_of_none e hf)]; exact g.s x y e, fun x y e => by rw [upd_ne (ne_of_none e hDH)]; exact g.h x y e, g.n⟩
    let St := fun (i : Nat) (H' : Hp) => ∃ F' acc, i ≤ xs.length ∧ Same F1 F' ∧ Gr F H F' H' ∧ F' D = none ∧ H' D = some (.lst acc) ∧ RpA K F' acc (((xs.take i).filter b).map f)
    refine ⟨fun i m H' => m = xs.length - i ∧ St i H', ⟨xs.length, rfl, F1, [], Nat.zero_le _, Same.refl _, set g1 hDF, hDF, upd_same, .nil⟩, ?_⟩
    rintro i m H2 ⟨rfl, F2, acc, hi, s2, g2, f2, e2, r2⟩
    have lenx : (xs.map enc).length = xs.length := List.length_map _
    by_cases hlt : i < xs.length
    · refine .inr ⟨wk.go i F2 H2 s2 g2.s (by rw [lenx]; exact hlt), St (i + 1), fun H' z => ⟨xs.length - (i + 1), by omega, rfl, z⟩, fun x H3 hy => ?_⟩
      obtain ⟨F3, d, g3, hd, rx⟩ := wk.yl i x F2 H2 H3 s2 g2.s (by rw [lenx]; exact hlt) hy
      have hx : xs[i]? = some xs[i] := List.getElem?_eq_getElem hlt
      rw [List.getElem?_map, hx] at hd
      cases hd
      obtain ⟨js, Γ1, hg, hj, ht, he⟩ := h xs[i] (List.getElem_mem hlt)
      have g03 := g2.trans g3
      have f3 : F3 D = none ∧ H3 D = some (.lst acc) := g3.out f2 e2
      refine hg F0 H0 F3 H3 _ x ((ok.grow g03).wipe vs) rx _ fun σ4 ok4 wp => ⟨(wp vs hj).trans (wipe_wipe σ vs), ?_⟩
      refine ht F0 H0 F3 H3 σ4 ok4 _ fun F4 H4 g4 => ?_
      have f4 := g4.out f3.1 f3.2
      have tk : xs.take (i + 1) = xs.take i ++ [xs[i]] := by rw [List.take_add_one, hx]; rfl
      cases hb : b xs[i] with
      | true =>
        rw [if_pos rfl]
        refine he hb F0 H0 F4 H4 σ4 (ok4.grow g4) _ fun v F5 H5 g5 r5 => ?_
        have f5 := g5.out f4.1 f4.2
        have gg := (g03.trans g4).trans g5
        refine ⟨acc, f5.2, ?_, F5, acc ++ [v], by omega, ((s2.trans g3.f).trans g4.f).trans g5.f, set gg f5.1, f5.1, upd_same, ?_⟩
        · have z := r2.len
          rw [List.length_map] at z
          have z2 := List.length_filter_le b (xs.take i)
          rw [List.length_take] at z2
          have z3 : acc.length < 100000 := by omega
          exact Nat.lt_of_lt_of_le z3 (by decide)
        · have e : ((xs.take (i + 1)).filter b).map f = ((xs.take i).filter b).map f ++ [f xs[i]] := by
            rw [tk, List.filter_append, List.map_append, List.filter_cons, if_pos hb] <;> rfl
          rw [e]
          exact (r2.mono ((g3.f.trans g4.f).trans g5.f)).append (.one r5)
      | false =>
        rw [if_neg (by decide)]
        have gg := g03.trans g4
        refine ⟨F4, acc, by omega, (s2.trans g3.f).trans g4.f, gg, f4.1, f4.2, ?_⟩
        have e : ((xs.take (i + 1)).filter b).map f = ((xs.take i).filter b).map f := by
          rw [tk, List.filter_append, List.map_append, List.filter_cons, if_neg (by rw [hb]; decide)]
          simp
        rw [e]
        exact r2.mono (g3.f.trans g4.f)
    · have e : i = xs.length := by omega
      subst e
      refine .inl ⟨by have z := wk.st F2 H2 s2 g2.s; rw [lenx] at z; exact z, ?_⟩
      rw [List.take_length] at r2
      exact q D acc F2 H2 g2 hDH f2 e2 r2
theorem filter_all {α : Type} (xs : List α) : xs.filter (fun _ => true) = xs := by simp
theorem ew_map {α : Type} {wi : TI} {vs : List Nat} (xs : List α) (enc : α → D) (f : α → D) (hw : Ei K wi Γ (xs.map enc)) (hl : xs.length ≤ 100000)
    (h : ∀ x ∈ xs, ∃ js Γ1, Eg K g js (enc x) (wipeG Γ vs) Γ1 ∧ (∀ j ∈ js, j ∈ vs) ∧ Ed K te Γ1 (f x)) : Ew K (tLc wi g tYes te vs) Γ (xs.map f) := by
  have z := ew_lc (K := K) (Γ := Γ) (g := g) (t := tYes) (te := te) (vs := vs) xs enc (fun _ => true) f hw hl fun x hx => by
    obtain ⟨js, Γ1, a, b, c⟩ := h x hx
    exact ⟨js, Γ1, a, b, et_yes, fun _ => c⟩
  rw [filter_all] at z
  exact z
theorem ed_map {α : Type} {wi : TI} {vs : List Nat} (xs : List α) (enc : α → D) (f : α → D) (hw : Ei K wi Γ (xs.map enc)) (hl : xs.length ≤ 100000)
    (h : ∀ x ∈ xs, ∃ js Γ1, Eg K g js (enc x) (wipeG Γ vs) Γ1 ∧ (∀ j ∈ js, j ∈ vs) ∧ Ed K te Γ1 (f x)) : Ed K (tLc wi g tYes te vs) Γ (.lst (xs.map f)) := ed_ow (ew_map xs enc f hw hl h)
theorem ed_lc {α : Type} {wi : TI} {vs : List Nat} (xs : List α) (enc : α → D) (b : α → Bool) (f : α → D) (hw : Ei K wi Γ (xs.map enc)) (hl : xs.length ≤ 100000)
    (h : ∀ x ∈ xs, ∃ js Γ1, Eg K g js (enc x) (wipeG Γ vs) Γ1 ∧ (∀ j ∈ js, j ∈ vs) ∧ Et K t Γ1 (b x) ∧ (b x = true → Ed K te Γ1 (f x))) : Ed K (tLc wi g t te vs) Γ (.lst ((xs.filter b).map f)) := ed_ow (ew_lc xs enc b f hw hl h)
end
/-! ### promises -/
def spR (K : PySem.W.Frag) (S : List D → D → Prop) : Sp := fun vs H Q _ => ∃ F ds d, Same F H ∧ RpA K F vs ds ∧ S ds d ∧ ∀ v F' H', Gr F H F' H' → Rp K F' v d → Q v H'
def spX (K : PySem.W.Frag) (S : List D → D → Prop) (T : List D → Addr → Prop) : Sp := fun vs H Q E => ∃ F ds, Same F H ∧ RpA K F vs ds ∧
  ((∃ d, S ds d ∧ ∀ v F' H', Gr F H F' H' → Rp K F' v d → Q v H') ∨ (∃ C, T ds C ∧ ∀ F' H', Gr F H F' H' → E (.ref C) none H'))
section
variable {K : PySem.W.Frag} {E : XK} {Γ : Gam} {d : D} {ds : List D} {tas : TA} {S : List D → D → Prop} {T : List D → Addr → Prop} {C : Addr}
theorem ed_call {E' : XK} (h : Ea K tas Γ ds) (hs : S ds d) : Ed K (tCall (spR K S) [] E' tas) Γ d := fun F0 H0 F H σ ok Q q => h F0 H0 F H σ ok _ fun vs F1 H1 g1 r1 =>
  ⟨F1, ds, d, g1.s, by rw [List.append_nil]; exact r1, hs, fun v F2 H2 g2 r2 => q v F2 H2 (g1.trans g2) r2⟩
theorem ed_callX {E' : XK} (h : Ea K tas Γ ds) (hs : S ds d) : Ed K (tCall (spX K S T) [] E' tas) Γ d := fun F0 H0 F H σ ok Q q => h F0 H0 F H σ ok _ fun vs F1 H1 g1 r1 =>
  ⟨F1, ds, g1.s, by rw [List.append_nil]; exact r1, .inl ⟨d, hs, fun v F2 H2 g2 r2 => q v F2 H2 (g1.trans g2) r2⟩⟩
theorem xd_callX (h : Ea K tas Γ ds) (hs : T ds C) : Xd K E (tCall (spX K S T) [] E tas) Γ C := fun F0 H0 F H σ ok fin Q => h F0 H0 F H σ ok _ fun vs F1 H1 g1 r1 =>
  ⟨F1, ds, g1.s, by rw [List.append_nil]; exact r1, .inr ⟨C, hs, fun F2 H2 g2 => fin F2 H2 (g1.trans g2)⟩⟩
theorem xd_callA {sp : Sp} (h : Xa K E tas Γ C) {E' : XK} : Xd K E (tCall sp [] E' tas) Γ C := fun F0 H0 F H σ ok fin Q => h F0 H0 F H σ ok fin _
end
def startG (N : List Str) (ds : List D) : Gam := ds.map .fz ++ List.replicate (N.length - ds.length) .no
section
variable {K : PySem.W.Frag} {E : XK} {d : D} {ds : List D} {N : List Str} {F H : Hp} {vs : List V} {ts : TS} {Q : VK}
theorem ok_start (e : Same F H) (r : RpA K F vs ds) : Ok K F H F H (L2.start N vs) (startG N ds) := by
  have hl := r.len
  have noOw : ∀ (i : Nat) (es : List D), ¬ (startG N ds)[i]? = some (.ow es) := fun i es h => by
    unfold startG at h
    rw [List.getElem?_append] at h
    split at h
    · rw [List.getElem?_map] at h
      cases q : ds[i]? with
      | none => rw [q] at h; cases h
      | some x => rw [q] at h; cases h
    · rw [List.getElem?_replicate] at h
      split at h <;> cases h
  refine ⟨Gr.refl e, ?_, fun i d h => ?_, fun i es h => absurd h (noOw i es), fun i j es fs p hij h1 h2 => absurd h1 (noOw i es)⟩
  · unfold startG L2.start
    simp only [List.length_append, List.length_map, List.length_replicate, hl]
  · unfold startG at h
    rw [List.getElem?_append] at h
    split at h
    · rename_i hi
      rw [List.length_map] at hi
      rw [List.getElem?_map] at h
      cases q : ds[i]? with
      | none => rw [q] at h; cases h
      | some x =>
        rw [q] at h
        cases h
        obtain ⟨v, hv, rv⟩ := r.get q
        refine ⟨v, ?_, rv⟩
        unfold L2.start
        rw [List.getElem?_append_left (by rw [List.length_map, hl]; exact hi), List.getElem?_map, hv]
        rfl
    · rw [List.getElem?_replicate] at h
      split at h <;> cases h
theorem run_rt (h : Sd K E ts (startG N ds) (.rt d)) (e : Same F H) (r : RpA K F vs ds) (q : ∀ v F' H', Gr F H F' H' → Rp K F' v d → Q v H') : ts { nx := fun _ H' => Q .non H', rt := Q } (L2.start N vs) H :=
  h F H F H _ _ (ok_start e r) fun v F' H' g1 r1 => q v F' H' g1 r1
theorem run_nx {Γ : Gam} (h : Sd K E ts (startG N ds) (.nx Γ)) (e : Same F H) (r : RpA K F vs ds) (q : ∀ v F' H', Gr F H F' H' → Rp K F' v .non → Q v H') : ts { nx := fun _ H' => Q .non H', rt := Q } (L2.start N vs) H :=
  h F H F H _ _ (ok_start e r) fun F' H' σ' _ ok => q _ F' H' ok.g .non
theorem run_ex {C : Addr} (h : Sd K E ts (startG N ds) (.ex C)) (e : Same F H) (r : RpA K F vs ds) (q : ∀ F' H', Gr F H F' H' → E (.ref C) none H') : ts { nx := fun _ H' => Q .non H', rt := Q } (L2.start N vs) H :=
  h F H F H _ _ (ok_start e r) q
end
section
variable {P : Program} {w : World} {K : PySem.W.Frag} {mg : Str → Option Value} {base : Heap} {x qual : Str} {st : Stmt} {f : Addr} {fd : FuncData} {N ps : List Str} {k : Nat} {S : List D → D → Prop} {T : List D → Addr → Prop}
/-- a def that returns -/
theorem fnR (F : Fun K x qual st f fd) (sc : FnScope N ps (defScope st)) (len : ∀ ds d, S ds d → ds.length = ps.length)
    (body : ∀ (cdv : Value) (A : Around) (outer : List Env) (s : Shared) (H : Hp) (E : XK), Room k (A.deeper (envOfC qual (defScope st) s.heap.objs.size f cdv)) →
      ∃ t, PSs (cxOf CX0 P w K mg base N qual (defScope st) f cdv A outer s H E).nox (defBody st) t ∧ ∀ ds d, S ds d → Sd K E0 t (startG N ds) (.rt d)) : FnOk P w K mg base CX0 (k + 1) f fd ps (spR K S) :=
  F.ok sc (fun vs H Q E h => by
    obtain ⟨F', ds, d, e, r, hs, q⟩ := h
    rw [r.len]
    exact len ds d hs) fun cdv A outer s H vs Q E hr h => by
    obtain ⟨F', ds, d, e, r, hs, q⟩ := h
    obtain ⟨t, ht, hd⟩ := body cdv A outer s H E hr
    exact ⟨t, ht, run_rt (hd ds d hs) e r q⟩
/-- a def that may raise -/
theorem fnX (F : Fun K x qual st f fd) (sc : FnScope N ps (defScope st)) (len : ∀ ds d, S ds d → ds.length = ps.length) (len2 : ∀ ds C, T ds C → ds.length = ps.length)
    (body : ∀ (cdv : Value) (A : Around) (outer : List Env) (s : Shared) (H : Hp) (E : XK), Room k (A.deeper (envOfC qual (defScope st) s.heap.objs.size f cdv)) →
      ∃ t, PSs (cxOf (L2.CX P w) P w K mg base N qual (defScope st) f cdv A outer s H E) (defBody st) t ∧ (∀ ds d, S ds d → Sd K E t (startG N ds) (.rt d)) ∧ (∀ ds C, T ds C → Sd K E t (startG N ds) (.ex C))) : FnOk P w K mg base (L2.CX P w) (k + 1) f fd ps (spX K S T) :=
  F.okX sc (fun vs H Q E h => by
    obtain ⟨F', ds, e, r, ⟨d, hs, q⟩ | ⟨C, hs, q⟩⟩ := h
    · rw [r.len]
      exact len ds d hs
    · rw [r.len]
      exact len2 ds C hs) fun cdv A outer s H vs Q E hr h => by
    obtain ⟨F', ds, e, r, h⟩ := h
    obtain ⟨t, ht, hd, hx⟩ := body cdv A outer s H E hr
    refine ⟨t, ht, ?_⟩
    rcases h with ⟨d, hs, q⟩ | ⟨C, hs, q⟩
    · exact run_rt (hd ds d hs) e r q
    · exact run_ex (hx ds C hs) e r q
end
end DL

namespace DL
open PySem PySem.Spec PyProof.Rows L2
/-! ### operators by values -/
def CBig (i j : Int) : Prop := i.natAbs.log2 + j.natAbs.log2 < 100000000
theorem CBig.ok {i j : Int} (h : CBig i j) : IntMulOk i j := by
  have b : ∀ x : Int, Builtin.Int.intBits x ≤ x.natAbs.log2 + 1 := fun x => by
    unfold Builtin.Int.intBits
    split <;> omega
  have h1 := b i
  have h2 := b j
  have h3 : i.natAbs.log2 + j.natAbs.log2 < 100000000 := h
  have e : bitsLine = 134217728 := by decide
  unfold IntMulOk
  intro z
  rw [Bool.and_eq_true] at z
  have z2 := z.2
  unfold Builtin.Int.intTooBig at z2
  have z3 := of_decide_eq_true z2
  rw [e] at z3
  omega
theorem log2_le {n a : Nat} (h : n < 2 ^ a) (ha : 0 < a) : n.log2 < a := by
  by_cases h0 : n = 0
  · subst h0; simp; exact ha
  · exact (Nat.log2_lt h0).mpr h
theorem CBig.of {i j : Int} {a b : Nat} (ha : i.natAbs < 2 ^ a) (hb : j.natAbs < 2 ^ b) (h0 : 0 < a) (h1 : 0 < b) (h : a + b ≤ 100000000) : CBig i j := by
  have x := log2_le ha h0
  have y := log2_le hb h1
  unfold CBig
  omega
def rAddA : R2 := fun x y H Q => rI0 (fun i j => .int (i + j)) x y H Q ∨ ((fun x y H Q => ∃ i j, x = .str i ∧ y = .str j ∧ i.length + j.length ≤ sizeLine ∧ Q (.str (i ++ j)) H) x y H Q ∨ rCat x y H Q)
def rMulA : R2 := fun x y H Q => rI CBig (fun i j => .int (i * j)) x y H Q ∨ rRep x y H Q
def CFd (i j : Int) : Prop := j ≠ 0 ∧ j.natAbs.log2 < 9000
def rFdA : R2 := rI CFd fun i j => .int (i.fdiv j)
def rLtA : R2 := fun x y H Q => rI0 (fun i j => .bl (decide (i < j))) x y H Q ∨ (fun x y H Q => ∃ i j, x = .str i ∧ y = .str j ∧ Q (.bl (decide (i.cps.toList < j.cps.toList))) H) x y H Q
def rLeA : R2 := fun x y H Q => rI0 (fun i j => .bl (decide (i ≤ j))) x y H Q ∨ (fun x y H Q => ∃ i j, x = .str i ∧ y = .str j ∧ Q (.bl (!decide (j.cps.toList < i.cps.toList))) H) x y H Q
section
variable {X : Cx}
theorem opAdd : OpR X (binaryOp .Add) rAddA := op_add.or (op_add_str.or op_cat)
theorem opMul : OpR X (binaryOp .Mult) rMulA := OpR.or (opI fun _ _ _ _ _ _ _ hc q => mul_int q hc.ok) op_rep
theorem opFd : OpR X (binaryOp .FloorDiv) rFdA := opI fun i j _ _ _ _ _ hc q => floordiv_int hc.1 q (.inl (PyProof.noPylong_of_log2 hc.2))
theorem opLt : OpR X (compareOp .Lt) rLtA := op_lt.or op_lt_str
theorem opLe : OpR X (compareOp .LtE) rLeA := op_le.or op_le_str
end
/-! ### plain data -/
mutual
def D.py : D → PyData
  | .non => .none
  | .bl b => .bool b
  | .int i => .int i
  | .str x => .str x
  | .lst ds => .list (D.pyA ds)
  | .tup ds => .tuple (D.pyA ds)
  | .dct => .none
  | .scr _ => .none
  | .adr _ => .none
  | .ty _ => .none
  | .ins _ _ => .none
def D.pyA : List D → List PyData
  | [] => []
  | d :: ds => D.py d :: D.pyA ds
end
theorem pyA_map (ds : List D) : D.pyA ds = ds.map D.py := by
  induction ds with
  | nil => rfl
  | cons d ds ih => simp only [D.pyA, List.map_cons, ih]
inductive Pl : Nat → D → Prop
  | non {n : Nat} : Pl n .non
  | bl {n : Nat} (b : Bool) : Pl n (.bl b)
  | int {n : Nat} (i : Int) : Pl n (.int i)
  | str {n : Nat} {x : Str} (h : PyData.strOk x = true) : Pl n (.str x)
  | lst {n : Nat} {ds : List D} : (∀ d ∈ ds, Pl n d) → Pl (n + 1) (.lst ds)
  | tup {n : Nat} {ds : List D} : (∀ d ∈ ds, Pl n d) → Pl (n + 1) (.tup ds)
theorem Pl.mono {n m : Nat} {d : D} (h : Pl n d) : n ≤ m → Pl m d := by
  induction h generalizing m with
  | non => exact fun _ => .non
  | bl b => exact fun _ => .bl b
  | int i => exact fun _ => .int i
  | str h => exact fun _ => .str h
  | lst h ih =>
    intro hm
    obtain ⟨k, rfl⟩ : ∃ k, m = k + 1 := ⟨m - 1, by omega⟩
    exact .lst fun d hd => ih d hd (by omega)
  | tup h ih =>
    intro hm
    obtain ⟨k, rfl⟩ : ∃ k, m = k + 1 := ⟨m - 1, by omega⟩
    exact .tup fun d hd => ih d hd (by omega)
section
variable {K : PySem.W.Frag} {H : Hp}
theorem dp_all : ∀ {vs : List V} {ds : List D}, RpA K H vs ds → (∀ d ∈ ds, ∀ v, Rp K H v d → Dp K H v d.py) → DpAll K H vs (D.pyA ds)
  | _, _, .nil, _ => .nil
  | _, _, .cons h t, f => .cons (f _ List.mem_cons_self _ h) (dp_all t fun d hd => f d (List.mem_cons_of_mem _ hd))
theorem dp_of {n : Nat} {d : D} (h : Pl n d) : ∀ {v : V}, Rp K H v d → Dp K H v d.py := by
  induction h with
  | non => intro v r; cases r; exact .non
  | bl b => intro v r; cases r; exact .bl b
  | int i => intro v r; cases r; exact .int i
  | str h => intro v r; cases r; exact .str _
  | lst h ih =>
    intro v r
    cases r with
    | lst hs ha =>
      simp only [D.py]
      exact .lst (.inl (.inl hs)) (dp_all ha fun d hd v => ih d hd)
  | tup h ih =>
    intro v r
    cases r with
    | tup hs ha =>
      simp only [D.py]
      exact .tup hs (dp_all ha fun d hd v => ih d hd)
end
theorem canAll {ds : List D} (h : ∀ d ∈ ds, d.py.canLay0 = true) : PyData.canLayAll0 (D.pyA ds) = true := by
  induction ds with
  | nil => simp only [D.pyA, PyData.canLayAll0]
  | cons d ds ih =>
    simp only [D.pyA, PyData.canLayAll0, h d List.mem_cons_self, ih fun x hx => h x (List.mem_cons_of_mem _ hx), Bool.and_self]
theorem depAll {n : Nat} {ds : List D} (h : ∀ d ∈ ds, d.py.depth ≤ n) : PyData.depthAll (D.pyA ds) ≤ n := by
  induction ds with
  | nil => simp only [D.pyA, PyData.depthAll]; omega
  | cons d ds ih =>
    simp only [D.pyA, PyData.depthAll]
    have h1 := h d List.mem_cons_self
    have h2 := ih fun x hx => h x (List.mem_cons_of_mem _ hx)
    omega
theorem pl_can {n : Nat} {d : D} (h : Pl n d) : d.py.canLay0 = true := by
  induction h with
  | non => rfl
  | bl b => rfl
  | int i => rfl
  | str h => simpa [D.py, PyData.canLay0] using h
  | lst h ih => simp only [D.py, PyData.canLay0]; exact canAll ih
  | tup h ih => simp only [D.py, PyData.canLay0]; exact canAll ih
theorem pl_dep {n : Nat} {d : D} (h : Pl n d) : d.py.depth ≤ n + 1 := by
  induction h with
  | non => simp [D.py, PyData.depth]
  | bl b => simp [D.py, PyData.depth]
  | int i => simp [D.py, PyData.depth]
  | str h => simp [D.py, PyData.depth]
  | lst h ih => simp only [D.py, PyData.depth]; have := depAll ih; omega
  | tup h ih => simp only [D.py, PyData.depth]; have := depAll ih; omega
theorem pl_shaped {n : Nat} {d : D} (h : Pl n d) (hn : n ≤ 60) : SeqAt.shaped d.py = true := by
  unfold SeqAt.shaped
  rw [pl_can h, Bool.true_and]
  have := pl_dep h
  exact decide_eq_true (by omega)
def eqD (d e : D) : Bool := PyData.eqv d.py e.py
/-! ### what they give -/
section
variable {K : PySem.W.Frag} {d dx dy : D} {ds es : List D} {i j : Int} {x y : Str}
theorem r2_addI : R2D K rAddA (.int i) (.int j) (.int (i + j)) := fun F H v w s rv rw Q q => by
  cases rv; cases rw
  exact .inl ⟨i, j, rfl, rfl, q _ F H (Gr.refl s) (.int _)⟩
theorem r2_addS (h : x.length + y.length ≤ 100000) : R2D K rAddA (.str x) (.str y) (.str (x ++ y)) := fun F H v w s rv rw Q q => by
  cases rv; cases rw
  exact .inr (.inl ⟨x, y, rfl, rfl, Nat.le_trans h (by decide), q _ F H (Gr.refl s) (.str _)⟩)
theorem r2_addL (h : ds.length + es.length ≤ 100000) : R2D K rAddA (.lst ds) (.lst es) (.lst (ds ++ es)) := fun F H v w s rv rw Q q => by
  cases rv with
  | @lst a xs _ ha ra =>
    cases rw with
    | @lst b ys _ hb rb =>
      refine .inr (.inr ⟨a, b, xs, ys, rfl, rfl, s _ _ ha, s _ _ hb, Nat.le_trans (by rw [ra.len, rb.len]; exact h) (by decide), fun p hp => ?_⟩)
      have g := Gr.new (o := .lst (xs ++ ys)) s hp
      exact q _ _ _ g (.lst upd_same ((ra.append rb).mono g.f))
theorem r2_subI : R2D K (rI0 fun i j => .int (i - j)) (.int i) (.int j) (.int (i - j)) := fun F H v w s rv rw Q q => by
  cases rv; cases rw
  exact ⟨i, j, rfl, rfl, q _ F H (Gr.refl s) (.int _)⟩
theorem r2_mulI (h : CBig i j) : R2D K rMulA (.int i) (.int j) (.int (i * j)) := fun F H v w s rv rw Q q => by
  cases rv; cases rw
  exact .inl ⟨i, j, rfl, rfl, h, q _ F H (Gr.refl s) (.int _)⟩
theorem r2_mulL (h : ds.length * i.toNat ≤ 100000) (hi : -(2 ^ 63) ≤ i ∧ i < 2 ^ 63) : R2D K rMulA (.lst ds) (.int i) (.lst (List.replicate i.toNat ds).flatten) := fun F H v w s rv rw Q q => by
  cases rw
  cases rv with
  | @lst a xs _ ha ra =>
    refine .inr ⟨a, i, xs, rfl, rfl, s _ _ ha, hi.1, hi.2, Nat.le_trans (by rw [ra.len]; exact h) (by decide), fun p hp => ?_⟩
    have g := Gr.new (o := .lst (List.replicate i.toNat xs).flatten) s hp
    exact q _ _ _ g (.lst upd_same ((ra.rep _).mono g.f))
theorem r2_mod (h : 0 < j) : R2D K (rI (fun _ j => 0 < j) fun i j => .int (i % j)) (.int i) (.int j) (.int (i % j)) := fun F H v w s rv rw Q q => by
  cases rv; cases rw
  exact ⟨i, j, rfl, rfl, h, q _ F H (Gr.refl s) (.int _)⟩
theorem r2_fd (h : CFd i j) : R2D K rFdA (.int i) (.int j) (.int (i.fdiv j)) := fun F H v w s rv rw Q q => by
  cases rv; cases rw
  exact ⟨i, j, rfl, rfl, h, q _ F H (Gr.refl s) (.int _)⟩
theorem r2_fdP (h : 0 < j) (hj : j.natAbs.log2 < 9000 := by decide) : R2D K rFdA (.int i) (.int j) (.int (i / j)) := by
  have e : i.fdiv j = i / j := Int.fdiv_eq_ediv_of_nonneg i (by omega)
  rw [← e]
  exact r2_fd ⟨by omega, hj⟩
theorem r2_pow (h : CPow i j) : R2D K (rI CPow fun i j => .int (i ^ j.toNat)) (.int i) (.int j) (.int (i ^ j.toNat)) := fun F H v w s rv rw Q q => by
  cases rv; cases rw
  exact ⟨i, j, rfl, rfl, h, q _ F H (Gr.refl s) (.int _)⟩
theorem r2_ltI : R2D K rLtA (.int i) (.int j) (.bl (decide (i < j))) := fun F H v w s rv rw Q q => by
  cases rv; cases rw
  exact .inl ⟨i, j, rfl, rfl, q _ F H (Gr.refl s) (.bl _)⟩
theorem r2_leI : R2D K rLeA (.int i) (.int j) (.bl (decide (i ≤ j))) := fun F H v w s rv rw Q q => by
  cases rv; cases rw
  exact .inl ⟨i, j, rfl, rfl, q _ F H (Gr.refl s) (.bl _)⟩
theorem r2_ltS : R2D K rLtA (.str x) (.str y) (.bl (decide (x.cps.toList < y.cps.toList))) := fun F H v w s rv rw Q q => by
  cases rv; cases rw
  exact .inr ⟨x, y, rfl, rfl, q _ F H (Gr.refl s) (.bl _)⟩
theorem r2_leS : R2D K rLeA (.str x) (.str y) (.bl (!decide (y.cps.toList < x.cps.toList))) := fun F H v w s rv rw Q q => by
  cases rv; cases rw
  exact .inr ⟨x, y, rfl, rfl, q _ F H (Gr.refl s) (.bl _)⟩
theorem r2_gt : R2D K (rI0 fun i j => .bl (decide (j < i))) (.int i) (.int j) (.bl (decide (j < i))) := fun F H v w s rv rw Q q => by
  cases rv; cases rw
  exact ⟨i, j, rfl, rfl, q _ F H (Gr.refl s) (.bl _)⟩
theorem r2_ge : R2D K (rI0 fun i j => .bl (decide (j ≤ i))) (.int i) (.int j) (.bl (decide (j ≤ i))) := fun F H v w s rv rw Q q => by
  cases rv; cases rw
  exact ⟨i, j, rfl, rfl, q _ F H (Gr.refl s) (.bl _)⟩
theorem r2_eq {n m : Nat} (h1 : Pl n dx) (h2 : Pl m dy) (hn : n ≤ 60 := by decide) (hm : m ≤ 60 := by decide) : R2D K (rEqD K) dx dy (.bl (eqD dx dy)) := fun F H v w s rv rw Q q =>
  ⟨_, _, dp_of h1 (rv.mono s), dp_of h2 (rw.mono s), pl_shaped h1 hn, pl_shaped h2 hm, q _ F H (Gr.refl s) (.bl _)⟩
theorem r2_ne {n m : Nat} (h1 : Pl n dx) (h2 : Pl m dy) (hn : n ≤ 60 := by decide) (hm : m ≤ 60 := by decide) : R2D K (rNeD K) dx dy (.bl (!eqD dx dy)) := fun F H v w s rv rw Q q =>
  ⟨_, _, dp_of h1 (rv.mono s), dp_of h2 (rw.mono s), pl_shaped h1 hn, pl_shaped h2 hm, q _ F H (Gr.refl s) (.bl _)⟩
theorem r2_eqI : R2D K (rEqD K) (.int i) (.int j) (.bl (decide (i = j))) := r2_eq (.int (n := 0) i) (.int (n := 0) j)
theorem r2_neI : R2D K (rNeD K) (.int i) (.int j) (.bl (!decide (i = j))) := r2_ne (.int (n := 0) i) (.int (n := 0) j)
theorem ixn_map {α β : Type} {xs : List α} {ys : List β} (h : xs.length = ys.length) (i : Int) : ixN xs.length i = ixN ys.length i := by rw [h]
theorem atI_rp {F : Hp} {xs : List V} (r : RpA K F xs ds) (h : atI ds i = some d) : ∃ v, atI xs i = some v ∧ Rp K F v d := by
  unfold atI at h ⊢
  rw [r.len]
  cases q : ixN ds.length i with
  | none => rw [q] at h; cases h
  | some j =>
    rw [q] at h
    exact r.get h
theorem r2_ixL (h : atI ds i = some d) : R2D K (rIx K) (.lst ds) (.int i) d := fun F H v w s rv rw Q q => by
  cases rw
  cases rv with
  | @lst a xs _ ha ra =>
    obtain ⟨z, hz, rz⟩ := atI_rp ra h
    exact .inl ⟨a, xs, i, z, rfl, rfl, .inl (.inl (s _ _ ha)), hz, q _ F H (Gr.refl s) rz⟩
theorem r2_ixT (h : atI ds i = some d) : R2D K (rIx K) (.tup ds) (.int i) d := fun F H v w s rv rw Q q => by
  cases rw
  cases rv with
  | @tup a xs _ ha ra =>
    obtain ⟨z, hz, rz⟩ := atI_rp ra h
    exact .inr (.inl ⟨a, xs, i, z, rfl, rfl, sqt_mono s ha, hz, q _ F H (Gr.refl s) rz⟩)
theorem r2_ixP {ns : List Int} {n : Int} (h : atI ns i = some n) : R2D K (rIx K) (.scr ns) (.int i) (.int n) := fun F H v w s rv rw Q q => by
  cases rw
  cases rv with
  | @scr a _ ha =>
    refine .inl ⟨a, _, i, .int n, rfl, rfl, s.seq ha, ?_, q _ F H (Gr.refl s) (.int n)⟩
    unfold atI at h ⊢
    rw [List.length_map]
    cases z : ixN ns.length i with
    | none => rw [z] at h; cases h
    | some j =>
      rw [z] at h
      have h' : ns[j]? = some n := h
      simp [h']
theorem r2_ixS {c : Nat} (hz : x.length ≤ 100000) (h : atI x.cps.toList i = some c) : R2D K (rIx K) (.str x) (.int i) (.str ⟨#[c]⟩) := fun F H v w s rv rw Q q => by
  cases rv; cases rw
  exact .inr (.inr ⟨x, i, c, rfl, rfl, Nat.le_trans hz (by decide), h, q _ F H (Gr.refl s) (.str _)⟩)
theorem r2_isB {a b : Bool} : R2D K rIsB (.bl a) (.bl b) (.bl (decide (a = b))) := fun F H v w s rv rw Q q => by
  cases rv; cases rw
  exact ⟨a, b, rfl, rfl, q _ F H (Gr.refl s) (.bl _)⟩
theorem r2_notB {a b : Bool} : R2D K rNotB (.bl a) (.bl b) (.bl (!decide (a = b))) := fun F H v w s rv rw Q q => by
  cases rv; cases rw
  exact ⟨a, b, rfl, rfl, q _ F H (Gr.refl s) (.bl _)⟩
theorem r1_neg : R1D K (rU fun i => .int (-i)) (.int i) (.int (-i)) := fun F H v s rv Q q => by
  cases rv
  exact ⟨i, rfl, q _ F H (Gr.refl s) (.int _)⟩
/-! built-ins -/
theorem rc_abs : RcD K (fun xs H Q => ∃ i, xs = [.int i] ∧ Q (.int (if i < 0 then -i else i)) H) [.int i] (.int i.natAbs) := fun F H vs s r Q q => by
  have e := RpA.ints (ns := [i]) r
  refine ⟨i, e, ?_⟩
  have z : (if i < 0 then -i else i) = (i.natAbs : Int) := by split <;> omega
  rw [z]
  exact q _ F H (Gr.refl s) (.int _)
theorem rc_max2 : RcD K (fun xs H Q => ∃ i j, xs = [.int i, .int j] ∧ Q (.int (if j > i then j else i)) H) [.int i, .int j] (.int (max i j)) := fun F H vs s r Q q => by
  have e := RpA.ints (ns := [i, j]) r
  refine ⟨i, j, e, ?_⟩
  have z : (if j > i then j else i) = max i j := by split <;> omega
  rw [z]
  exact q _ F H (Gr.refl s) (.int _)
def rLenA (K : PySem.W.Frag) : List V → Hp → VK → Prop := fun xs H Q => ∃ x n, xs = [x] ∧ LenV K x H n ∧ Q (.int (n : Int)) H
theorem callLen {X : Cx} : CallR X (.builtin "len") (rLenA X.K) := call_len
theorem rc_lenL : RcD K (rLenA K) [.lst ds] (.int ds.length) := fun F H vs s r Q q => by
  cases r with
  | cons r rr =>
    cases rr
    cases r with
    | @lst a xs _ ha ra => exact ⟨.ref a, ds.length, rfl, .inl ⟨xs, .inl (.inl (s _ _ ha)), ra.len.symm⟩, q _ F H (Gr.refl s) (.int _)⟩
theorem rc_lenT : RcD K (rLenA K) [.tup ds] (.int ds.length) := fun F H vs s r Q q => by
  cases r with
  | cons r rr =>
    cases rr
    cases r with
    | @tup a xs _ ha ra => exact ⟨.ref a, ds.length, rfl, .inr ⟨xs, sqt_mono s ha, ra.len.symm⟩, q _ F H (Gr.refl s) (.int _)⟩
theorem rc_lenP {ns : List Int} : RcD K (rLenA K) [.scr ns] (.int ns.length) := fun F H vs s r Q q => by
  cases r with
  | cons r rr =>
    cases rr
    cases r with
    | @scr a _ ha => exact ⟨.ref a, ns.length, rfl, .inl ⟨_, s.seq ha, by rw [List.length_map]⟩, q _ F H (Gr.refl s) (.int _)⟩
theorem rc_lenS (h : x.length ≤ 100000) : RcD K (rLenA K) [.str x] (.int x.length) := fun F H vs s r Q q => by
  cases r with
  | cons r rr =>
    cases rr
    cases r
    exact ⟨.str x, x.length, rfl, ⟨Nat.le_trans h (by decide), rfl⟩, q _ F H (Gr.refl s) (.int _)⟩
def rIntA : List V → Hp → VK → Prop := fun xs H Q => ((∃ i, xs = [.int i] ∧ Q (.int i) H) ∨ ∃ k, xs = [.bl k] ∧ Q (.int (if k then 1 else 0)) H) ∨ (∃ a n, xs = [.str a] ∧ PySem.intText? a = some n ∧ a.length ≤ 640 ∧ Q (.int n) H)
theorem callInt {X : Cx} : CallR X (.type "int") rIntA := call_int1.or call_int_str
theorem rc_intB {b : Bool} : RcD K rIntA [.bl b] (.int (if b then 1 else 0)) := fun F H vs s r Q q => by
  have e := RpA.bls (ns := [b]) r
  exact .inl (.inr ⟨b, e, q _ F H (Gr.refl s) (.int _)⟩)
theorem rc_intS {n : Int} (h : PySem.intText? x = some n) (hl : x.length ≤ 640) : RcD K rIntA [.str x] (.int n) := fun F H vs s r Q q => by
  have e := RpA.strs (ns := [x]) r
  exact .inr ⟨x, n, e, h, hl, q _ F H (Gr.refl s) (.int _)⟩
theorem rc_all {bs : List Bool} : RcD K (rAll K) [.lst (bs.map .bl)] (.bl (bs.all id)) := fun F H vs s r Q q => by
  cases r with
  | cons r rr =>
    cases rr
    cases r with
    | @lst a xs _ ha ra =>
      have e := RpA.bls ra
      subst e
      exact ⟨a, bs, rfl, .inl (.inl (s _ _ ha)), q _ F H (Gr.refl s) (.bl _)⟩
theorem rc_sum {ns : List Int} : RcD K (rSum K) [.lst (ns.map .int)] (.int ns.sum) := fun F H vs s r Q q => by
  cases r with
  | cons r rr =>
    cases rr
    cases r with
    | @lst a xs _ ha ra =>
      have e := RpA.ints ra
      subst e
      exact ⟨a, ns, rfl, .inl (.inl (s _ _ ha)), q _ F H (Gr.refl s) (.int _)⟩
/-- the type of plain things -/
def tyD : D → Option String
  | .non => some "NoneType"
  | .bl _ => some "bool"
  | .int _ => some "int"
  | .str _ => some "str"
  | .lst _ => some "list"
  | .tup _ => some "tuple"
  | .dct => some "dict"
  | _ => none
theorem tyX_of {F H : Hp} {v : V} {T : String} (s : Same F H) (r : Rp K F v d) (h : tyD d = some T) : TyX K H v (.type T) := by
  cases r with
  | non => cases h; exact .base .non
  | bl b => cases h; exact .base (.bl b)
  | int i => cases h; exact .base (.int i)
  | str x => cases h; exact .base (.str x)
  | lst ha _ => cases h; exact .base (.lst (s _ _ ha))
  | tup ha _ =>
    cases h
    rcases ha with (ha | ⟨o, ha⟩) | ⟨o, _, _, ha, hc, _⟩
    · exact .base (.tup (s _ _ ha))
    · exact .fTuple (s _ _ ha)
    · exact .kTuple ha hc
  | dct ha => cases h; exact .base (.dK (s _ _ ha))
  | scr _ => cases h
  | adr _ => cases h
  | ty _ => cases h
  | ins _ _ => cases h
theorem rc_isi {T U : String} {b : Bool} (h : tyD d = some T) (hb : kitB T U = some b) : RcD K (rIsi K) [d, .ty U] (.bl b) := fun F H vs s r Q q => by
  cases r with
  | cons r rr =>
    cases rr with
    | cons r2 rr =>
      cases rr
      cases r2
      exact ⟨_, _, _, _, b, rfl, .ty U, tyX_of s r h, kit_ty hb, q _ F H (Gr.refl s) (.bl b)⟩
end
end DL

namespace DL
open PySem PySem.Spec PyProof.Rows L2
/-! ### defs by name -/
structure Df (K : PySem.W.Frag) (mg : Str → Option Value) (x : Str) (ps : List Str) (st : Stmt) : Prop where
  ex : ∃ (f : Addr) (fd : FuncData), Fun K x x st f fd ∧ mg x = some (.ref f) ∧ Binds K fd ps []
structure Cl (P : Program) (w : World) (K : PySem.W.Frag) (mg : Str → Option Value) (base : Heap) (CX : CXT) (k : Nat) (x : Str) (sp : Sp) : Prop where
  ex : ∃ (f : Addr) (fd : FuncData) (ps : List Str), FnOk P w K mg base CX k f fd ps sp ∧ mg x = some (.ref f) ∧ PySem.W.keepIn K (.ref f) = true ∧ Binds K fd ps []
section
variable {P : Program} {w : World} {K : PySem.W.Frag} {mg : Str → Option Value} {base : Heap} {x : Str} {st : Stmt} {N ps : List Str} {k : Nat} {S : List D → D → Prop} {T : List D → Addr → Prop} {sp : Sp}
theorem clR (D : Df K mg x ps st) (sc : FnScope N ps (defScope st)) (len : ∀ ds d, S ds d → ds.length = ps.length)
    (body : ∀ (f : Addr) (cdv : Value) (A : Around) (outer : List Env) (s : Shared) (H : Hp) (E : XK), Room k (A.deeper (envOfC x (defScope st) s.heap.objs.size f cdv)) →
      ∃ t, PSs (cxOf CX0 P w K mg base N x (defScope st) f cdv A outer s H E).nox (defBody st) t ∧ ∀ ds d, S ds d → Sd K E0 t (startG N ds) (.rt d)) : Cl P w K mg base CX0 (k + 1) x (spR K S) := by
  obtain ⟨f, fd, F, hm, b⟩ := D.ex
  exact ⟨f, fd, ps, fnR F sc len (body f), hm, F.kp, b⟩
theorem clX (D : Df K mg x ps st) (sc : FnScope N ps (defScope st)) (len : ∀ ds d, S ds d → ds.length = ps.length) (len2 : ∀ ds C, T ds C → ds.length = ps.length)
    (body : ∀ (f : Addr) (cdv : Value) (A : Around) (outer : List Env) (s : Shared) (H : Hp) (E : XK), Room k (A.deeper (envOfC x (defScope st) s.heap.objs.size f cdv)) →
      ∃ t, PSs (cxOf (L2.CX P w) P w K mg base N x (defScope st) f cdv A outer s H E) (defBody st) t ∧ (∀ ds d, S ds d → Sd K E t (startG N ds) (.rt d)) ∧ (∀ ds C, T ds C → Sd K E t (startG N ds) (.ex C))) : Cl P w K mg base (L2.CX P w) (k + 1) x (spX K S T) := by
  obtain ⟨f, fd, F, hm, b⟩ := D.ex
  exact ⟨f, fd, ps, fnX F sc len len2 (body f), hm, F.kp, b⟩
theorem clImp {sp' : Sp} {CX : CXT} (c : Cl P w K mg base CX k x sp) (h : ∀ vs H Q E, sp' vs H Q E → sp vs H Q E) : Cl P w K mg base CX k x sp' := by
  obtain ⟨f, fd, ps, F, a, b, d⟩ := c.ex
  exact ⟨f, fd, ps, F.imp h, a, b, d⟩
theorem clMono {CX : CXT} {j : Nat} (c : Cl P w K mg base CX k x sp) (h : k ≤ j) : Cl P w K mg base CX j x sp := by
  obtain ⟨f, fd, ps, F, a, b, d⟩ := c.ex
  exact ⟨f, fd, ps, F.mono h, a, b, d⟩
end
section
variable {X : Cx} {k j : Nat} {x : Str} {sp : Sp} {p pos : Pos} {e : Expr} {es : List Expr} {t : TA}
theorem pcl (c : Cl X.prog X.w X.K X.mg X.base CX0 k x sp) (hr : Room j X.A) (hk : k ≤ j) (hg : Gl X x) (ha : PA X (e :: es) t)
    (hdb : (x == ("__debug__" : Str)) = false := by decide) (he : starEach (e :: es) X.env = (false, eval e X.env) :: starEach es X.env := by rfl) (hpl : (backTo pos (starEach es X.env)).any (·.1) = false := by rfl) :
    PE X (.Call (.Name x p) (e :: es) [] pos) (tCall sp [] E0 t) := by
  obtain ⟨f, fd, ps, F, hm, kp, b⟩ := c.ex
  exact pe_call F (hr.mono hk) hg hm kp b .nil pass0 ha hdb he hpl
/-- a def that may raise, where nothing is let out: it does not -/
theorem pclX (c : Cl X.prog X.w X.K X.mg X.base (L2.CX X.prog X.w) k x sp) (hr : Room j X.A) (hk : k ≤ j) (hg : Gl X x) (ha : PA X (e :: es) t)
    (hdb : (x == ("__debug__" : Str)) = false := by decide) (he : starEach (e :: es) X.env = (false, eval e X.env) :: starEach es X.env := by rfl) (hpl : (backTo pos (starEach es X.env)).any (·.1) = false := by rfl) :
    PE X (.Call (.Name x p) (e :: es) [] pos) (tCall sp [] E0 t) := by
  obtain ⟨f, fd, ps, F, hm, kp, b⟩ := c.ex
  exact pe_call F (hr.mono hk) hg hm kp b .nil passL ha hdb he hpl
/-- .. where errors are let out -/
theorem pclR {E : XK} (c : Cl X.prog X.w X.K X.mg X.base (L2.CX X.prog X.w) k x sp) (hr : Room j X.A) (hk : k ≤ j) (hg : Gl X x) (hx : Passes (L2.CX X.prog X.w) X E) (ha : PA X (e :: es) t)
    (hdb : (x == ("__debug__" : Str)) = false := by decide) (he : starEach (e :: es) X.env = (false, eval e X.env) :: starEach es X.env := by rfl) (hpl : (backTo pos (starEach es X.env)).any (·.1) = false := by rfl) :
    PE X (.Call (.Name x p) (e :: es) [] pos) (tCall sp [] E t) := by
  obtain ⟨f, fd, ps, F, hm, kp, b⟩ := c.ex
  exact pe_call F (hr.mono hk) hg hm kp b .nil hx ha hdb he hpl
/-- inside a try's body, at the slots -/
theorem pclS {E : L2.St → XK} (c : Cl X.prog X.w X.K X.mg X.base (L2.CX X.prog X.w) k x sp) (hr : Room j X.A) (hk : k ≤ j) (hg : Gl X x) (hx : ∀ σ, PassesAt (L2.CX X.prog X.w) X σ (E σ)) (ha : PA X (e :: es) t)
    (hdb : (x == ("__debug__" : Str)) = false := by decide) (he : starEach (e :: es) X.env = (false, eval e X.env) :: starEach es X.env := by rfl) (hpl : (backTo pos (starEach es X.env)).any (·.1) = false := by rfl) :
    PE X (.Call (.Name x p) (e :: es) [] pos) (tCallS sp E t) := by
  obtain ⟨f, fd, ps, F, hm, kp, b⟩ := c.ex
  exact pe_callS F (hr.mono hk) hg hm kp b hx ha hdb he hpl
end
/-! ### slices of lists and of texts -/
def rSlA (K : PySem.W.Frag) : V → Option Int → Option Int → Hp → VK → Prop := fun x lo hi H Q => rSlL K x lo hi H Q ∨ rSlS x lo hi H Q
theorem slA {X : Cx} : SlR X (rSlA X.K) := fun pins s σ H x v vl vu lo hi sl Q I rx hs pl pu h => by
  rcases h with h | h
  · exact sl_list pins s σ H x v vl vu lo hi sl Q I rx hs pl pu h
  · exact sl_str pins s σ H x v vl vu lo hi sl Q I rx hs pl pu h
def cutD (ds : List D) (lo hi : Option Int) : List D := (ds.drop (HT.sIx ds.length 0 lo)).take (HT.sIx ds.length ds.length hi - HT.sIx ds.length 0 lo)
section
variable {K : PySem.W.Frag} {ds : List D} {lo hi : Option Int} {x : Str}
theorem rs_lst : RsD K (rSlA K) (.lst ds) lo hi (.lst (cutD ds lo hi)) := fun F H v s rv Q q => by
  cases rv with
  | @lst a xs _ ha ra =>
    refine .inl ⟨a, xs, rfl, .inl (.inl (s _ _ ha)), fun p hp => ?_⟩
    have g := Gr.new (o := .lst (cutV xs lo hi)) s hp
    refine q _ _ _ g (.lst upd_same (RpA.mono g.f ?_))
    unfold cutV cutD
    rw [ra.len]
    exact (ra.drop _).take _
theorem rs_scr {ns : List Int} : RsD K (rSlA K) (.scr ns) lo hi (.lst (cutD (ns.map .int) lo hi)) := fun F H v s rv Q q => by
  cases rv with
  | @scr a _ ha =>
    refine .inl ⟨a, _, rfl, s.seq ha, fun p hp => ?_⟩
    have g := Gr.new (o := .lst (cutV (ns.map V.int) lo hi)) s hp
    refine q _ _ _ g (.lst upd_same (RpA.mono g.f ?_))
    unfold cutV cutD
    rw [List.length_map, List.length_map]
    exact ((RpA.ofInts ns).drop _).take _
theorem rs_str (h : x.length ≤ 100000) : RsD K (rSlA K) (.str x) lo hi (.str (cutS x lo hi)) := fun F H v s rv Q q => by
  cases rv
  exact .inr ⟨x, rfl, Nat.le_trans h (by decide), q _ F H (Gr.refl s) (.str _)⟩
end
/-! ### what the built-in names are -/
theorem bt_isinstance : bootBuiltins "isinstance" = some (.builtin "isinstance") := by decide +kernel
theorem bt_len : bootBuiltins "len" = some (.builtin "len") := by decide +kernel
theorem bt_abs : bootBuiltins "abs" = some (.builtin "abs") := by decide +kernel
theorem bt_max : bootBuiltins "max" = some (.builtin "max") := by decide +kernel
theorem bt_min : bootBuiltins "min" = some (.builtin "min") := by decide +kernel
theorem bt_all : bootBuiltins "all" = some (.builtin "all") := by decide +kernel
theorem bt_sum : bootBuiltins "sum" = some (.builtin "sum") := by decide +kernel
theorem bt_sorted : bootBuiltins "sorted" = some (.builtin "sorted") := by decide +kernel
theorem bt_repr : bootBuiltins "repr" = some (.builtin "repr") := by decide +kernel
theorem bt_int : bootBuiltins "int" = some (.type "int") := by decide +kernel
theorem bt_str : bootBuiltins "str" = some (.type "str") := by decide +kernel
theorem bt_list : bootBuiltins "list" = some (.type "list") := by decide +kernel
theorem bt_tuple : bootBuiltins "tuple" = some (.type "tuple") := by decide +kernel
theorem bt_bool : bootBuiltins "bool" = some (.type "bool") := by decide +kernel
theorem bt_dict : bootBuiltins "dict" = some (.type "dict") := by decide +kernel
theorem bt_ValueError : bootBuiltins "ValueError" = some (.type "ValueError") := by decide +kernel
/-- a class as a value -/
theorem rc_isiC {K : PySem.W.Frag} {d : D} {t : Value} {C : Addr} {b : Bool} (ht : ∀ F H v, Same F H → Rp K F v d → TyX K H v t) (hb : PySem.W.kitOne K t (.ref C) = some b) : RcD K (rIsi K) [d, .adr C] (.bl b) := fun F H vs s r Q q => by
  cases r with
  | cons r rr =>
    cases rr with
    | cons r2 rr =>
      cases rr
      cases r2
      exact ⟨_, _, _, _, b, rfl, .own C, ht F H _ s r, hb, q _ F H (Gr.refl s) (.bl b)⟩
end DL

namespace DL
open PySem PySem.Spec PyProof.Rows L2
/-! ### a def called within an except suite, its argument the error that is handled -/
structure FnE (P : Program) (w : World) (K : PySem.W.Frag) (mg : Str → Option Value) (base : Heap) (k : Nat) (f : Addr) (fd : FuncData) (ps : List Str) (C : Addr) (d : D) : Prop where
  len : ps.length = 1
  run : ∀ (A : Around) (outer : List Env) (s : Shared) (H F : Hp) (args : Args) (us : List Value) (Q : VK) (p : Addr × Obj), L2H.RoomH k A → Zc (.ref C) none p.2 → (∃ vs, p.2.data = .fields vs) → L2H.PinOk outer H s p →
    Env0 P w K mg base A outer s H → BindsTo s fd args (ps.zip us) → Vals [.ref p.1] us → Same F H → (∀ v F' H', Gr F H F' H' → Rp K F' v d → Q v H') → codeAny (model P w) A (.call (.ref f) args) (CR CX0 outer P w H s Q E0) s
structure ClE (P : Program) (w : World) (K : PySem.W.Frag) (mg : Str → Option Value) (base : Heap) (k : Nat) (x : Str) (C : Addr) (d : D) : Prop where
  ex : ∃ (f : Addr) (fd : FuncData) (ps : List Str), FnE P w K mg base k f fd ps C d ∧ mg x = some (.ref f) ∧ PySem.W.keepIn K (.ref f) = true ∧ Binds K fd ps []
section
variable {P : Program} {w : World} {K : PySem.W.Frag} {mg : Str → Option Value} {base : Heap}
theorem clE {x : Str} {st : Stmt} {N ps : List Str} {k : Nat} {C : Addr} {d : D} (De : Df K mg x ps st) (S : FnScope N ps (defScope st)) (hl : ps.length = 1)
    (body : ∀ (f : Addr) (cdv : Value) (A : Around) (outer : List Env) (s : Shared) (H : Hp) (p : Addr × Obj), Zc (.ref C) none p.2 → (∃ vs, p.2.data = .fields vs) → L2H.RoomH k (A.deeper (envOfC x (defScope st) s.heap.objs.size f cdv)) →
      ∃ t, PSs (L2H.cxH CX0 P w K mg base N x (defScope st) f cdv A outer s H E0 p).nox (defBody st) t ∧ Sd K E0 t (startG N [.adr p.1]) (.rt d)) : ClE P w K mg base (k + 1) x C d := by
  obtain ⟨f, fd, F, hm, b⟩ := De.ex
  have kp := F.kp
  obtain ⟨oc, od, kV, doc, pm, an, cdv, ct, osl, rfl, lk, hcd⟩ := F.ex
  refine ⟨f, _, ps, ⟨hl, fun A outer s H Fz args us Q p hr hz hf hpin e0 hb r sF q => ?_⟩, hm, kp, b⟩
  have hlv : ([V.ref p.1] : List V).length = ps.length := hl.symm
  have KX : K.In s.heap := e0.mod.kin.keeps fun b o e => (e0.bs b o e).1
  have lim : s.heap.NoLimit := e0.mod.nolimit.keeps fun b o e => (e0.bs b o e).1
  have hkind : ∀ y ∈ ps.zip us, (defScope st).names.lookup y.1 = some .local ∨ ((defScope st).names.lookup y.1 = some .cell ∧ ((cellsFrom (s.heap.objs.size + 1) (defScope st).names []).lookup y.1).isSome = true) := by
    rintro ⟨n, v⟩ hy
    rcases S.par n (List.of_mem_zip hy).1 with z | z
    · exact .inl z
    · exact .inr ⟨z, PySem.W.cellsFrom_some _ _ _ (.inl z)⟩
  refine codeAny_call_function hr.depth (KX _ _ lk) rfl S.co S.gen rfl (PySem.W.codeRec_of KX hcd) (hb _ _ _ _ ?_)
  refine wpAny_newFunctionEnv_cells S.kind hkind fun env he s1 x => ?_
  subst he
  refine ⟨lim.keeps x.toInCall.keep, codeAny_func ?_⟩
  obtain ⟨t, ht, hq⟩ := body f cdv A outer s H p hz hf (hr.deeper _)
  have I := L2H.inv_startH (CX := CX0) (E := E0) (f := f) (cd := cdv) S hpin e0 hlv r x
  refine wpAny_mono (ht.nox.run [] s1 (L2.start N [.ref p.1]) H _ I (run_rt (Q := Q) hq sF (.cons (.adr p.1) .nil) q)) (fun fl s' hs => ?_) fun e s' hs => hs
  cases fl with
  | ret u =>
    obtain ⟨v, σ', H', J, rv, q'⟩ := hs
    exact ⟨v, H', J.os, J.bare, J.base, J.hok, rv, q'⟩
  | next =>
    obtain ⟨σ', H', J, q'⟩ := hs
    exact ⟨.non, H', J.os, J.bare, J.base, J.hok, rfl, q'⟩
  | brk =>
    obtain ⟨_, _, _, z⟩ := hs
    exact z.elim
  | cont =>
    obtain ⟨_, _, _, z⟩ := hs
    exact z.elim
end
/-- isinstance of the error that is pinned -/
theorem call_isP {X : Cx} {p : Addr × Obj} {C : Addr} (hp : p ∈ X.pn) (G : ExcC X.K C) (hz : Zc (.ref C) none p.2) (hf : ∃ vs, p.2.data = .fields vs) : CallR X (.builtin "isinstance") (rIsE X.K C p.1) := by
  intro pins s σ H xs us Q I r h
  obtain ⟨c, cv, b, rfl, hcv, e, q⟩ := h
  obtain ⟨u1, u2, rfl, r1, r2⟩ := vals2 r
  cases (show u1 = Value.ref p.1 from r1)
  have ec := hcv _ r2
  subst ec
  have hget := (I.pin p (List.mem_append_left _ hp)).1
  obtain ⟨vs, hv⟩ := hf
  have J : PySem.W.InstAt s.heap p.1 p.2 C none := by
    obtain ⟨a, oc, od, oda, osl⟩ := p
    obtain ⟨h1, h2⟩ := hz
    dsimp only at h1 h2 hv
    subst h1 h2 hv
    exact ⟨hget, rfl, rfl, trivial⟩
  exact PySem.W.kia_one (PySem.W.handS_kitx_exc G.hg G.hk G.hs G.hd G.ha G.hn G.ht G.hm) I.kIn J e (fun z => nomatch z) fun tk => ⟨.bl b, H, I.tok tk, rfl, q⟩
section
variable {K : PySem.W.Frag} {C D' a : Addr} {b : Bool}
theorem rc_isP (h : PySem.W.kitOne K (.ref C) (.ref D') = some b) : RcD K (rIsE K C a) [.adr a, .adr D'] (.bl b) := fun F H vs s r Q q => by
  cases r with
  | cons r1 rr =>
    cases rr with
    | cons r2 rr =>
      cases rr
      cases r1
      cases r2
      exact ⟨.ref D', .ref D', b, rfl, fun u z => z, h, q _ F H (Gr.refl s) (.bl b)⟩
theorem rc_isPT {n : String} (h : PySem.W.kitOne K (.ref C) (.type n) = some b) : RcD K (rIsE K C a) [.adr a, .ty n] (.bl b) := fun F H vs s r Q q => by
  cases r with
  | cons r1 rr =>
    cases rr with
    | cons r2 rr =>
      cases rr
      cases r1
      cases r2
      exact ⟨.ty n, .type n, b, rfl, fun u z => z, h, q _ F H (Gr.refl s) (.bl b)⟩
end
/-! ### the call within the suite -/
def tCallE (K : PySem.W.Frag) (W : Addr → Option D) (a : Addr) (cls : Value) (dd : Option Addr) (t : TA) : TE := fun σ H Q => t σ H fun vs H1 => vs = [.ref a] ∧ ∃ C d F, cls = .ref C ∧ dd = none ∧ W C = some d ∧ Same F H1 ∧ ∀ v F' H', Gr F H1 F' H' → Rp K F' v d → Q v H'
theorem pe_callE {X : Cx} {a : Addr} {oe : Obj} {pn : List (Addr × Obj)} {cls : Value} {dd : Option Addr} {W : Addr → Option D} {k j : Nat} {x : Str} {q pos : Pos} {e : Expr} {t : TA} (hF : ∀ C d, W C = some d → ClE X.prog X.w X.K X.mg X.base k x C d)
    (hmx : ∃ f, X.mg x = some (.ref f) ∧ PySem.W.keepIn X.K (.ref f) = true)
    (hr : Room j X.A) (hk : k ≤ j) (hz : Zc cls dd oe) (hf : ∃ vs, oe.data = .fields vs) (hg : Gl X x) (ha : PA (X.suite a ((a, oe) :: pn)) [e] t) (hdb : (x == ("__debug__" : Str)) = false := by decide)
    (he : starEach (e :: []) X.env = (false, eval e X.env) :: starEach [] X.env := by rfl) (hpl : (backTo pos (starEach [] X.env)).any (·.1) = false := by rfl) :
    PE (X.suite a ((a, oe) :: pn)) (.Call (.Name x q) [e] [] pos) (tCallE X.K W a cls dd t) := by
  refine ⟨fun pins s σ H Q I h => ?_⟩
  have hroom : L2H.RoomH j (X.suite a ((a, oe) :: pn)).A := ⟨hr.dp, hr.un⟩
  obtain ⟨f0, hm0, kp0⟩ := hmx
  refine wpAny_Call_Name_kw (ld_glob (X := X.suite a ((a, oe) :: pn)) I hg hm0 ?_ hdb)
  refine PySem.W.callWith_K (h₀ := X.base) I.ok.mod.kin kp0 (thn (ha.run pos pins s σ H _ I h) fun us s1 ⟨vs, H1, I1, r, q1⟩ => ⟨I1.kIn, ?_⟩) he hpl
  obtain ⟨rfl, C, d, F, e1, e2, e3, sF, q2⟩ := q1
  obtain ⟨f, fd, ps, G, hm, kp, b⟩ := (hF C d e3).ex
  rw [hm0] at hm
  cases hm
  have hlu : us.length = ps.length := by rw [← r.length]; exact G.len.symm
  have bb := b s1 us I1.kIn (by rw [List.append_nil]; exact hlu)
  rw [List.append_nil] at bb
  have P1 := I1.pin (a, oe) (List.mem_append_left _ List.mem_cons_self)
  have hpin : L2H.PinOk (X.suite a ((a, oe) :: pn)).stack H1 s1 (a, oe) := ⟨P1.1, P1.2.1, fun hm => (List.mem_cons.mp (I1.stkSub a hm)).elim P1.2.2.1 P1.2.2.2.1, P1.2.2.2.2⟩
  have hz' : Zc (.ref C) none oe := ⟨hz.1.trans e1, hz.2.trans e2⟩
  refine wpAny_call (codeAny_mono (G.run _ _ s1 H1 F ⟨us, []⟩ us Q (a, oe) ⟨by have := hroom.dp; omega, by have := hroom.un; omega⟩ hz' hf hpin I1.env0 bb r sF q2) fun rs s' hq => ?_)
  cases rs with
  | error e => exact False.elim hq
  | ok fl =>
    cases fl with
    | ret u => exact I1.after hq
    | next => exact False.elim hq
    | brk => exact False.elim hq
    | cont => exact False.elim hq
/-! ### try: body, except C as e: return word_of(e) -/
/-- the body raises an error of the class at C, its slots as they were -/
def SdW (K : PySem.W.Frag) (W : WX) (ts : TS) (Γ : Gam) (C : Addr) : Prop := ∀ (F0 H0 F H : Hp) (σ : L2.St) (De : Ends), Ok K F0 H0 F H σ Γ → (∀ F1 H1, Ok K F0 H0 F1 H1 σ Γ → W (.ref C) none σ H1) → ts De σ H
def XdW (K : PySem.W.Frag) (W : WX) (te : TE) (Γ : Gam) (C : Addr) : Prop := ∀ (F0 H0 F H : Hp) (σ : L2.St), Ok K F0 H0 F H σ Γ → (∀ F1 H1, Ok K F0 H0 F1 H1 σ Γ → W (.ref C) none σ H1) → ∀ Q : VK, te σ H Q
section
variable {K : PySem.W.Frag} {E : XK} {W : WX} {Γ : Gam} {d : D} {ds : List D} {tas : TA} {te ta tb : TE} {t : TT} {ts tu : TS} {S : List D → D → Prop} {T : List D → Addr → Prop} {C : Addr}
theorem ed_callS {E' : L2.St → XK} (h : Ea K tas Γ ds) (hs : S ds d) : Ed K (tCallS (spX K S T) E' tas) Γ d := fun F0 H0 F H σ ok Q q => h F0 H0 F H σ ok _ fun vs F1 H1 g1 r1 =>
  ⟨F1, ds, g1.s, r1, .inl ⟨d, hs, fun v F2 H2 g2 r2 => q v F2 H2 (g1.trans g2) r2⟩⟩
theorem xw_callS (h : Ea K tas Γ ds) (hs : T ds C) : XdW K W (tCallS (spX K S T) (WE W) tas) Γ C := fun F0 H0 F H σ ok fin Q => h F0 H0 F H σ ok _ fun vs F1 H1 g1 r1 =>
  ⟨F1, ds, g1.s, r1, .inr ⟨C, hs, fun F2 H2 g2 => fin F2 H2 ((ok.grow g1).grow g2)⟩⟩
theorem sw_ret (h : XdW K W te Γ C) : SdW K W (tRet te) Γ C := fun F0 H0 F H σ De ok fin => h F0 H0 F H σ ok fin _
theorem sw_drop (h : XdW K W te Γ C) : SdW K W (tDrop te) Γ C := fun F0 H0 F H σ De ok fin => h F0 H0 F H σ ok fin _
theorem sw_head (h : SdW K W ts Γ C) : SdW K W (tSeq ts tu) Γ C := fun F0 H0 F H σ De ok fin => h F0 H0 F H σ _ ok fin
theorem sw_if {b : Bool} (h : Et K t Γ b) (h1 : b = true → SdW K W ts Γ C) (h2 : b = false → SdW K W tu Γ C) : SdW K W (tIfS t ts tu) Γ C := fun F0 H0 F H σ De ok fin => h F0 H0 F H σ ok _ fun F1 H1 g1 => by
  cases b with
  | true => exact h1 rfl F0 H0 F1 H1 σ De (ok.grow g1) fin
  | false => exact h2 rfl F0 H0 F1 H1 σ De (ok.grow g1) fin
/-- what stands ahead of it in the block does not raise and leaves the slots: an if that is not taken -/
theorem sw_skip (h : Et K t Γ false) (h2 : SdW K W tu Γ C) : SdW K W (tSeq (tIfS t ts tNext) tu) Γ C := fun F0 H0 F H σ De ok fin => h F0 H0 F H σ ok _ fun F1 H1 g1 => h2 F0 H0 F1 H1 σ De (ok.grow g1) fin
/-- the whole: it raises, is caught, and the word is told -/
theorem sd_caught {c : Value} {i : Nat} {Wm : Addr → Option D} {Wout : WX} {tb : WX → TS} (hi : i < Γ.length) (hb : ∀ W, SdW K W (tb W) Γ C) (hx : PySem.W.exmOne K (.ref C) c = some true) (hw : Wm C = some d) :
    Sd K E (fun De σ H => tb (wAs K c i (fun a cls dd => tRet (tCallE K Wm a cls dd (tCons (tVar i) tNil))) Wout De) De σ H) Γ (.rt d) := fun F0 H0 F H σ De ok fin =>
  hb _ F0 H0 F H σ De ok fun F1 H1 ok1 => ⟨true, hx, fun _ a ha => by
    have hs : (σ.set i (some (V.ref a)))[i]? = some (some (.ref a)) := List.getElem?_set_self (by rw [ok.len]; exact hi)
    exact ⟨.ref a, hs, rfl, C, d, F1, rfl, rfl, hw, ok1.g.s, fun v F' H' g r => fin v F' H' (ok1.g.trans g) r⟩, fun z => nomatch z⟩
/-- .. it returns -/
theorem sd_calm {Wx : Ends → WX} {tb : WX → TS} {o : Oc} (hb : ∀ W, Sd K E (tb W) Γ o) : Sd K E (fun De σ H => tb (Wx De) De σ H) Γ o := fun F0 H0 F H σ De ok fin => hb _ F0 H0 F H σ De ok fin
/-- sep.join(texts) -/
theorem ed_join {to te : TE} {a : Str} {ys : List Str} (h : Ed K to Γ (.str a)) (h2 : Ed K te Γ (.lst (ys.map .str))) (hl : (ys.map (·.length)).sum + ys.length * a.length ≤ 16777216) :
    Ed K (tM1 (fun x xs H Q => ∃ a p, ∃ ys : List Str, x = .str a ∧ xs = [.ref p] ∧ (SqL K H p (ys.map V.str) ∨ SqT K H p (ys.map V.str)) ∧ (ys.map (·.length)).sum + ys.length * a.length ≤ 16777216 ∧ Q (.str (Txt.join a ys)) H) to te) Γ (.str (Txt.join a ys)) := fun F0 H0 F H σ ok Q q => h F0 H0 F H σ ok _ fun v F1 H1 g1 r1 => by
  cases r1
  refine ⟨⟨a, rfl⟩, h2 F0 H0 F1 H1 σ (ok.grow g1) _ fun w F2 H2 g2 r2 => ?_⟩
  cases r2 with
  | @lst p xs _ hp ra =>
    have e := RpA.strs ra
    subst e
    exact ⟨a, p, ys, rfl, rfl, .inl (.inl (.inl (g2.s _ _ hp))), hl, q _ F2 H2 (g1.trans g2) (.str _)⟩
end
theorem kit_self {K : PySem.W.Frag} {C : Addr} : PySem.W.kitOne K (.ref C) (.ref C) = some true := by
  unfold PySem.W.kitOne
  rw [if_pos (by simp)]
theorem kit_other {K : PySem.W.Frag} {C C' : Addr} {b : Bool} (n : C ≠ C') (ic : PySem.W.isClsIn K C' = true) (tt : PySem.W.typeIn K (.ref C') = some (.type "type")) (hs : PySem.W.subIn K (.ref C) (.ref C') = some b) : PySem.W.kitOne K (.ref C) (.ref C') = some b := by
  unfold PySem.W.kitOne PySem.W.kitCls
  rw [if_neg (fun z => n (Value.ref.inj (beq_iff_eq.mp z)))]
  have ic' : (PySem.W.clsIn K C').isSome = true := ic
  show (if ((PySem.W.clsIn K C').isSome && PySem.W.typeIn K (.ref C') == some (.type "type")) = true then PySem.W.subIn K (.ref C) (.ref C') else none) = some b
  rw [if_pos (by rw [ic', tt]; rfl)]
  exact hs
theorem kit_val {K : PySem.W.Frag} {C : Addr} {b : Bool} (hs : PySem.W.subIn K (.ref C) (.type "ValueError") = some b) : PySem.W.kitOne K (.ref C) (.type "ValueError") = some b := by
  unfold PySem.W.kitOne PySem.W.kitCls
  rw [if_neg (by intro z; exact nomatch (beq_iff_eq.mp z))]
  show (if PySem.W.kitMeta "ValueError" = true then PySem.W.subIn K (.ref C) (.type "ValueError") else none) = some b
  rw [if_pos (by decide +kernel)]
  exact hs
/-- one class is caught -/
def W1 (C0 : Addr) (d0 : D) : Addr → Option D := fun C => if C = C0 then some d0 else none
theorem W1_self {C0 : Addr} {d0 : D} : W1 C0 d0 C0 = some d0 := if_pos rfl
section
variable {P : Program} {w : World} {K : PySem.W.Frag} {mg : Str → Option Value} {base : Heap} {k : Nat} {x : Str} {C0 : Addr} {d0 : D}
theorem W1_ok (c : ClE P w K mg base k x C0 d0) : ∀ C d, W1 C0 d0 C = some d → ClE P w K mg base k x C d := fun C d h => by
  unfold W1 at h
  by_cases e : C = C0
  · subst e
    rw [if_pos rfl] at h
    cases h
    exact c
  · rw [if_neg e] at h
    cases h
theorem ClE.mx (c : ClE P w K mg base k x C0 d0) : ∃ f, mg x = some (.ref f) ∧ PySem.W.keepIn K (.ref f) = true := by
  obtain ⟨f, fd, ps, _, a, b, _⟩ := c.ex
  exact ⟨f, a, b⟩
end
/-! ### the law's own promise -/
def spLaw (K : PySem.W.Frag) : Sp := fun vs H Q _ => ∃ (a : Addr) (ns : List Int), vs = [.ref a] ∧ SqL K H a (ns.map V.int) ∧ ns.length ≤ 63 ∧ (∀ z ∈ ns, Builtin.Int.intBits z ≤ 1048576) ∧ ∀ H', Q (.bl true) H'
def Slaw : List D → D → Prop := fun ds d => ∃ ns : List Int, ds = [.scr ns] ∧ ns.length ≤ 63 ∧ (∀ z ∈ ns, Builtin.Int.intBits z ≤ 1048576) ∧ d = .bl true
theorem law_imp {K : PySem.W.Frag} : ∀ vs H Q E, spLaw K vs H Q E → spR K Slaw vs H Q E := fun vs H Q E ⟨a, ns, e, h, h1, h2, q⟩ =>
  ⟨H, [.scr ns], .bl true, Same.refl H, by rw [e]; exact .cons (.scr h) .nil, ⟨ns, rfl, h1, h2, rfl⟩, fun v F' H' g r => by cases r; exact q H'⟩
theorem fnLaw {P : Program} {w : World} {K : PySem.W.Frag} {mg : Str → Option Value} {base : Heap} {x qual : Str} {st : Stmt} {f : Addr} {fd : FuncData} {N ps : List Str} {k : Nat} (F : Fun K x qual st f fd) (sc : FnScope N ps (defScope st)) (h1 : ps.length = 1)
    (body : ∀ (cdv : Value) (A : Around) (outer : List Env) (s : Shared) (H : Hp) (E : XK), Room k (A.deeper (envOfC qual (defScope st) s.heap.objs.size f cdv)) →
      ∃ t, PSs (cxOf CX0 P w K mg base N qual (defScope st) f cdv A outer s H E).nox (defBody st) t ∧ ∀ ns : List Int, ns.length ≤ 63 → (∀ z ∈ ns, Builtin.Int.intBits z ≤ 1048576) → Sd K E0 t (startG N [.scr ns]) (.rt (.bl true))) : FnOk P w K mg base CX0 (k + 1) f fd ps (spLaw K) :=
  (fnR (S := Slaw) F sc (fun ds d h => by obtain ⟨ns, rfl, _⟩ := h; exact h1.symm) fun cdv A outer s H E hr => by
    obtain ⟨t, ht, hd⟩ := body cdv A outer s H E hr
    exact ⟨t, ht, fun ds d h => by obtain ⟨ns, rfl, a, b, rfl⟩ := h; exact hd ns a b⟩).imp law_imp
end DL

set_option Elab.async false
set_option linter.all false
set_option maxRecDepth 100000
set_option maxHeartbeats 4000000
open PySem PySem.Spec PyProof.Rows L2 DL
local macro_rules | `(tactic| wtm_at "ed") => `(tactic| first
  | with_reducible exact ed_int _
  | with_reducible exact ed_bl _
  | with_reducible exact ed_dct
  | with_reducible exact ed_non
  | with_reducible exact ed_str _
  | with_reducible exact ed_ty _
  | with_reducible exact ed_adr _
  | ((with_reducible apply ed_fz); exact rfl)
  | with_reducible apply ed_op
  | with_reducible apply ed_un
  | with_reducible apply ed_cb
  | with_reducible apply ed_call
  | with_reducible apply ed_callX
  | with_reducible apply ed_tup
  | with_reducible apply ed_lst
  | with_reducible apply ed_sl
  | with_reducible exact eo_none
  | with_reducible apply eo_some
  | with_reducible exact ea_nil
  | with_reducible apply ea_cons
  | with_reducible apply et_test
  | with_reducible apply et_B
  | with_reducible apply et_not
  | with_reducible exact et_yes
  | with_reducible apply ed_notV
  | ((with_reducible show autoParam _ _); exact Nat.le_of_ble_eq_true rfl)
  | wtm_at "rr")
local macro_rules | `(tactic| wtm_at "rr") => `(tactic| first
  | with_reducible exact r2_addI
  | with_reducible exact r2_subI
  | with_reducible exact r2_ltI
  | with_reducible exact r2_leI
  | with_reducible exact r2_gt
  | with_reducible exact r2_ge
  | with_reducible exact r2_eqI
  | with_reducible exact r2_neI
  | with_reducible exact r2_isB
  | with_reducible exact r2_notB
  | with_reducible exact r1_neg
  | with_reducible exact rc_abs
  | with_reducible exact rc_max2
  | with_reducible exact rc_lenL
  | with_reducible exact rc_lenT
  | with_reducible exact rc_lenP
  | with_reducible exact rc_intB
  | with_reducible exact rs_lst
  | with_reducible exact rs_scr
  | ((with_reducible apply r2_mod); first | decide | omega | skip)
  | ((with_reducible apply r2_ixT); exact rfl)
  | ((with_reducible apply r2_ixL); first | exact rfl | skip)
  | with_reducible apply r2_mulI
  | ((with_reducible apply rc_isi) <;> first | exact rfl | decide +kernel | skip))
namespace Kx
def topS (i : Nat) : Stmt := PySem.Challenge.pw_weighwords_k02_reckoned.main.body.getD i (.Pass ⟨0, 0, 0, 0⟩)

abbrev s_divisor : Stmt := topS 10
theorem sc_divisor : FnScope ["one", "other", "rest"] ["one", "other"] (defScope s_divisor) := ⟨rfl, rfl, rfl, by decide +kernel, rfl, by decide +kernel, by decide +kernel⟩
abbrev s_share : Stmt := topS 11
theorem sc_share : FnScope ["top", "bottom", "common"] ["top", "bottom"] (defScope s_share) := ⟨rfl, rfl, rfl, by decide +kernel, rfl, by decide +kernel, by decide +kernel⟩
abbrev s_plus : Stmt := topS 12
theorem sc_plus : FnScope ["one", "other"] ["one", "other"] (defScope s_plus) := ⟨rfl, rfl, rfl, by decide +kernel, rfl, by decide +kernel, by decide +kernel⟩
abbrev s_less : Stmt := topS 13
theorem sc_less : FnScope ["one", "other"] ["one", "other"] (defScope s_less) := ⟨rfl, rfl, rfl, by decide +kernel, rfl, by decide +kernel, by decide +kernel⟩
abbrev s_times : Stmt := topS 14
theorem sc_times : FnScope ["one", "other"] ["one", "other"] (defScope s_times) := ⟨rfl, rfl, rfl, by decide +kernel, rfl, by decide +kernel, by decide +kernel⟩
abbrev s_over : Stmt := topS 15
theorem sc_over : FnScope ["one", "other"] ["one", "other"] (defScope s_over) := ⟨rfl, rfl, rfl, by decide +kernel, rfl, by decide +kernel, by decide +kernel⟩
abbrev s_law_cell_at : Stmt := topS 17
theorem sc_law_cell_at : FnScope ["_law_script", "_law_k"] ["_law_script", "_law_k"] (defScope s_law_cell_at) := ⟨rfl, rfl, rfl, by decide +kernel, rfl, by decide +kernel, by decide +kernel⟩
abbrev s_law_whole : Stmt := topS 18
theorem sc_law_whole : FnScope ["_law_found"] ["_law_found"] (defScope s_law_whole) := ⟨rfl, rfl, rfl, by decide +kernel, rfl, by decide +kernel, by decide +kernel⟩
abbrev s_law_common : Stmt := topS 19
theorem sc_law_common : FnScope ["_law_one", "_law_other"] ["_law_one", "_law_other"] (defScope s_law_common) := ⟨rfl, rfl, rfl, by decide +kernel, rfl, by decide +kernel, by decide +kernel⟩
abbrev s_law_share : Stmt := topS 20
theorem sc_law_share : FnScope ["_law_top", "_law_bottom", "_law_common_here"] ["_law_top", "_law_bottom"] (defScope s_law_share) := ⟨rfl, rfl, rfl, by decide +kernel, rfl, by decide +kernel, by decide +kernel⟩
abbrev s_law_is : Stmt := topS 21
theorem sc_law_is : FnScope ["_law_found", "_law_due"] ["_law_found", "_law_due"] (defScope s_law_is) := ⟨rfl, rfl, rfl, by decide +kernel, rfl, by decide +kernel, by decide +kernel⟩
abbrev s_law_number : Stmt := topS 22
theorem sc_law_number : FnScope ["_law_cell"] ["_law_cell"] (defScope s_law_number) := ⟨rfl, rfl, rfl, by decide +kernel, rfl, by decide +kernel, by decide +kernel⟩
abbrev s_law_word_of : Stmt := topS 23
theorem sc_law_word_of : FnScope ["_law_e", "_law_found"] ["_law_e"] (defScope s_law_word_of) := ⟨rfl, rfl, rfl, by decide +kernel, rfl, by decide +kernel, by decide +kernel⟩
abbrev s_law_over : Stmt := topS 24
theorem sc_law_over : FnScope ["_law_one", "_law_other", "_law_e"] ["_law_one", "_law_other"] (defScope s_law_over) := ⟨rfl, rfl, rfl, by decide +kernel, rfl, by decide +kernel, by decide +kernel⟩
abbrev s_law_quotient : Stmt := topS 25
theorem sc_law_quotient : FnScope ["_law_one", "_law_other", "_law_top"] ["_law_one", "_law_other"] (defScope s_law_quotient) := ⟨rfl, rfl, rfl, by decide +kernel, rfl, by decide +kernel, by decide +kernel⟩
abbrev s_law : Stmt := topS 26
theorem sc_law : FnScope ["_law_script", "_law_cells", "_law_one", "_law_other", "_law_bottom", "_law_k"] ["_law_script"] (defScope s_law) := ⟨rfl, rfl, rfl, by decide +kernel, rfl, by decide +kernel, by decide +kernel⟩

structure Tx (K : PySem.W.Frag) (mg : Str → Option Value) (a_WeighError a_Nought a_NoText a_NoRow a_NoMachine a_NoWord a_OtherSigns a_TooMany : Addr) : Prop where
  d_divisor : Df K mg "divisor" ["one", "other"] s_divisor
  d_share : Df K mg "share" ["top", "bottom"] s_share
  d_plus : Df K mg "plus" ["one", "other"] s_plus
  d_less : Df K mg "less" ["one", "other"] s_less
  d_times : Df K mg "times" ["one", "other"] s_times
  d_over : Df K mg "over" ["one", "other"] s_over
  d__law_cell_at : Df K mg "_law_cell_at" ["_law_script", "_law_k"] s_law_cell_at
  d__law_whole : Df K mg "_law_whole" ["_law_found"] s_law_whole
  d__law_common : Df K mg "_law_common" ["_law_one", "_law_other"] s_law_common
  d__law_share : Df K mg "_law_share" ["_law_top", "_law_bottom"] s_law_share
  d__law_is : Df K mg "_law_is" ["_law_found", "_law_due"] s_law_is
  d__law_number : Df K mg "_law_number" ["_law_cell"] s_law_number
  d__law_word_of : Df K mg "_law_word_of" ["_law_e"] s_law_word_of
  d__law_over : Df K mg "_law_over" ["_law_one", "_law_other"] s_law_over
  d__law_quotient : Df K mg "_law_quotient" ["_law_one", "_law_other"] s_law_quotient
  d_law : Df K mg "law" ["_law_script"] s_law
  n_abs : mg "abs" = none
  n_len : mg "len" = none
  n_isinstance : mg "isinstance" = none
  n_int : mg "int" = none
  n_bool : mg "bool" = none
  n_tuple : mg "tuple" = none
  n_ValueError : mg "ValueError" = none
  n_max : mg "max" = none
  n_range : mg "range" = none
  m_WeighError : mg "WeighError" = some (.ref a_WeighError)
  m_Nought : mg "Nought" = some (.ref a_Nought)
  m_NoText : mg "NoText" = some (.ref a_NoText)
  m_NoRow : mg "NoRow" = some (.ref a_NoRow)
  m_NoMachine : mg "NoMachine" = some (.ref a_NoMachine)
  m_NoWord : mg "NoWord" = some (.ref a_NoWord)
  m_OtherSigns : mg "OtherSigns" = some (.ref a_OtherSigns)
  m_TooMany : mg "TooMany" = some (.ref a_TooMany)
  x_WeighError : PySem.W.excIn K a_WeighError [.type "ValueError", .type "Exception", .type "BaseException", .type "object"] "ValueError.__new__" = true
  k_WeighError : PySem.W.keepIn K (.ref a_WeighError) = true
  b_WeighError : PySem.W.subIn K (.ref a_WeighError) (.type "BaseException") = some true
  t_WeighError : PySem.W.typeIn K (.ref a_WeighError) = some (.type "type")
  x_Nought : PySem.W.excIn K a_Nought [.type "ValueError", .type "Exception", .type "BaseException", .type "object"] "ValueError.__new__" = true
  k_Nought : PySem.W.keepIn K (.ref a_Nought) = true
  b_Nought : PySem.W.subIn K (.ref a_Nought) (.type "BaseException") = some true
  t_Nought : PySem.W.typeIn K (.ref a_Nought) = some (.type "type")
  x_NoText : PySem.W.excIn K a_NoText [.type "ValueError", .type "Exception", .type "BaseException", .type "object"] "ValueError.__new__" = true
  k_NoText : PySem.W.keepIn K (.ref a_NoText) = true
  b_NoText : PySem.W.subIn K (.ref a_NoText) (.type "BaseException") = some true
  t_NoText : PySem.W.typeIn K (.ref a_NoText) = some (.type "type")
  x_NoRow : PySem.W.excIn K a_NoRow [.type "ValueError", .type "Exception", .type "BaseException", .type "object"] "ValueError.__new__" = true
  k_NoRow : PySem.W.keepIn K (.ref a_NoRow) = true
  b_NoRow : PySem.W.subIn K (.ref a_NoRow) (.type "BaseException") = some true
  t_NoRow : PySem.W.typeIn K (.ref a_NoRow) = some (.type "type")
  x_NoMachine : PySem.W.excIn K a_NoMachine [.type "ValueError", .type "Exception", .type "BaseException", .type "object"] "ValueError.__new__" = true
  k_NoMachine : PySem.W.keepIn K (.ref a_NoMachine) = true
  b_NoMachine : PySem.W.subIn K (.ref a_NoMachine) (.type "BaseException") = some true
  t_NoMachine : PySem.W.typeIn K (.ref a_NoMachine) = some (.type "type")
  x_NoWord : PySem.W.excIn K a_NoWord [.type "ValueError", .type "Exception", .type "BaseException", .type "object"] "ValueError.__new__" = true
  k_NoWord : PySem.W.keepIn K (.ref a_NoWord) = true
  b_NoWord : PySem.W.subIn K (.ref a_NoWord) (.type "BaseException") = some true
  t_NoWord : PySem.W.typeIn K (.ref a_NoWord) = some (.type "type")
  x_OtherSigns : PySem.W.excIn K a_OtherSigns [.type "ValueError", .type "Exception", .type "BaseException", .type "object"] "ValueError.__new__" = true
  k_OtherSigns : PySem.W.keepIn K (.ref a_OtherSigns) = true
  b_OtherSigns : PySem.W.subIn K (.ref a_OtherSigns) (.type "BaseException") = some true
  t_OtherSigns : PySem.W.typeIn K (.ref a_OtherSigns) = some (.type "type")
  x_TooMany : PySem.W.excIn K a_TooMany [.type "ValueError", .type "Exception", .type "BaseException", .type "object"] "ValueError.__new__" = true
  k_TooMany : PySem.W.keepIn K (.ref a_TooMany) = true
  b_TooMany : PySem.W.subIn K (.ref a_TooMany) (.type "BaseException") = some true
  t_TooMany : PySem.W.typeIn K (.ref a_TooMany) = some (.type "type")
  em_Nought : PySem.W.exmOne K (.ref a_Nought) (.ref a_WeighError) = some true
  ge_Nought : ExcC K a_Nought
  is_Nought_Nought : PySem.W.kitOne K (.ref a_Nought) (.ref a_Nought) = some true
  is_Nought_NoText : PySem.W.kitOne K (.ref a_Nought) (.ref a_NoText) = some false
  is_Nought_NoRow : PySem.W.kitOne K (.ref a_Nought) (.ref a_NoRow) = some false
  is_Nought_NoMachine : PySem.W.kitOne K (.ref a_Nought) (.ref a_NoMachine) = some false
  is_Nought_NoWord : PySem.W.kitOne K (.ref a_Nought) (.ref a_NoWord) = some false
  is_Nought_OtherSigns : PySem.W.kitOne K (.ref a_Nought) (.ref a_OtherSigns) = some false
  is_Nought_TooMany : PySem.W.kitOne K (.ref a_Nought) (.ref a_TooMany) = some false
  iv_Nought : PySem.W.kitOne K (.ref a_Nought) (.type "ValueError") = some true
section
variable {P : Program} {w : World} {K : PySem.W.Frag} {mg : Str → Option Value} {base : Heap} {a_WeighError a_Nought a_NoText a_NoRow a_NoMachine a_NoWord a_OtherSigns a_TooMany : Addr}
/-! ### shares: divisor, is_whole, is_share, share -/
theorem sd_whileE {K : PySem.W.Frag} {E : XK} {t : TT} {ts : TS} {Γ : Gam} {o : Oc} (h : ∃ n, LoopW K E t ts n Γ o) : Sd K E (tWhile t ts) Γ o := by
  obtain ⟨n, h⟩ := h
  exact sd_while h
def Sdiv : List D → D → Prop := fun ds d => ∃ a b : Nat, ds = [.int a, .int b] ∧ d = .int (Nat.gcd a b : Nat)
theorem ok_divisor (T : Tx K mg a_WeighError a_Nought a_NoText a_NoRow a_NoMachine a_NoWord a_OtherSigns a_TooMany) : Cl P w K mg base CX0 1 "divisor" (spR K Sdiv) := by
  refine clR T.d_divisor sc_divisor (fun ds d h => by obtain ⟨a, b, rfl, _⟩ := h; rfl) fun f cdv A outer s H E hr => ?_
  refine ⟨_, (pss_cons (ps_while PassesOwn.never (pt_cmpR op_gt (pv 1) pe_int (nomark _))
  (pss_cons (ps_set (i := 2) sc_divisor.nd rfl (by first | exact Or.inl rfl | exact Or.inr rfl) (pe_op op_mod (pv 0) (pv 1)))
  (pss_cons (ps_set (i := 0) sc_divisor.nd rfl (by first | exact Or.inl rfl | exact Or.inr rfl) (pv 1))
  (pss_one (ps_set (i := 1) sc_divisor.nd rfl (by first | exact Or.inl rfl | exact Or.inr rfl) (pv 2))))))
  (pss_one (ps_ret (pv 0)))), fun ds d h => ?_⟩
  obtain ⟨a, b, rfl, rfl⟩ := h
  refine sd_seq (Γ1 := [.fz (.int (Nat.gcd a b : Nat)), .fz (.int 0), .no]) (sd_whileE ?_) (sd_ret (ed_fz 0 rfl))
  show ∃ n, LoopW K E0 _ _ n [.fz (.int a), .fz (.int b), .no] _
  induction b using Nat.strongRecOn generalizing a with
  | _ b ih =>
    have test : Et K (tTest (tOp (rI0 fun i j => .bl (decide (j < i))) (tVar 1) (tC (.int 0)))) [.fz (.int a), .fz (.int b), .no] (decide ((0 : Int) < b)) := et_test (ed_op (ed_fz 1 rfl) (ed_int 0) r2_gt)
    by_cases hb : b = 0
    · subst hb
      rw [Nat.gcd_zero_right]
      exact ⟨0, .done test⟩
    · obtain ⟨n, hn⟩ := ih (a % b) (Nat.mod_lt _ (Nat.pos_of_ne_zero hb)) b
      rw [show Nat.gcd b (a % b) = Nat.gcd a b by rw [Nat.gcd_comm b, ← Nat.gcd_rec, Nat.gcd_comm]] at hn
      refine ⟨n + 1, .step (et_is test (decide_eq_true (by omega))) ?_ hn⟩
      refine Sd.lpLe (Γ1 := [.fz (.int b), .fz (.int ((a : Int) % b)), .fz (.int ((a : Int) % b))]) (Sd.toLp ?_) ?_
      · exact sd_seq (sd_set 2 (ed_op (ed_fz 0 rfl) (ed_fz 1 rfl) (r2_mod (by omega)))) (sd_seq (sd_set 0 (ed_fz 1 rfl)) (sd_set 1 (ed_fz 2 rfl)))
      · exact .cons (.inr rfl) (.cons (.inr rfl) (.cons (.inl rfl) .nil))
def isInt : D → Bool
  | .int _ => true
  | _ => false
def Swh : List D → D → Prop := fun ds d => ∃ x T, ds = [x] ∧ tyD x = some T ∧ d = .bl (isInt x)
theorem isi_kind (x : D) {T : String} (h : tyD x = some T) : kitB T "int" = some (isInt x || T == "bool") ∧ kitB T "bool" = some (T == "bool") ∧ kitB T "tuple" = some (T == "tuple") ∧ isInt x = (T == "int") := by
  cases x <;> first | (cases h; done) | (cases h; refine ⟨?_, ?_, ?_, ?_⟩ <;> first | decide +kernel | (simp only [isInt]; decide +kernel))
def isSh : D → Bool
  | .tup [.int a, .int b] => decide (0 < b) && decide (Nat.gcd a.natAbs b.toNat = 1)
  | _ => false
def Sis : List D → D → Prop := fun ds d => ∃ x, ds = [x] ∧ (∃ T, tyD x = some T) ∧ (∀ a b, x = .tup [a, b] → (∃ T, tyD a = some T) ∧ ∃ T, tyD b = some T) ∧ d = .bl (isSh x)
/-- the share of two whole numbers, the bottom not nought -/
def cmn (t b : Int) : Int := if b < 0 then 0 - (Nat.gcd t.natAbs b.natAbs : Nat) else (Nat.gcd t.natAbs b.natAbs : Nat)
def mkS (t b : Int) : Int × Int := (t.fdiv (cmn t b), b.fdiv (cmn t b))
abbrev sh (p : Int × Int) : D := .tup [.int p.1, .int p.2]
theorem cmn_ne {t b : Int} (hb : b ≠ 0) : cmn t b ≠ 0 := by
  have h : 0 < Nat.gcd t.natAbs b.natAbs := Nat.gcd_pos_of_pos_right _ (by omega)
  unfold cmn
  split <;> omega
theorem cmn_fd {t b x : Int} (hb : b ≠ 0) (h : b.natAbs.log2 < 9000) : CFd x (cmn t b) := by
  refine ⟨cmn_ne hb, ?_⟩
  have e : (cmn t b).natAbs = Nat.gcd t.natAbs b.natAbs := by unfold cmn; split <;> omega
  rw [e]
  have le : Nat.gcd t.natAbs b.natAbs ≤ b.natAbs := Nat.gcd_le_right _ (by omega)
  have hp : 0 < Nat.gcd t.natAbs b.natAbs := Nat.gcd_pos_of_pos_right _ (by omega)
  have h2 := (Nat.log2_lt (by omega)).mp h
  exact (Nat.log2_lt (by omega)).mpr (Nat.lt_of_le_of_lt le h2)
def Ssh : List D → D → Prop := fun ds d => ∃ t b : Int, ds = [.int t, .int b] ∧ b ≠ 0 ∧ b.natAbs.log2 < 9000 ∧ d = sh (mkS t b)
def Tsh (C : Addr) : List D → Addr → Prop := fun ds c => ∃ t : Int, ds = [.int t, .int 0] ∧ c = C
theorem ok_share (T : Tx K mg a_WeighError a_Nought a_NoText a_NoRow a_NoMachine a_NoWord a_OtherSigns a_TooMany) (c_divisor : Cl P w K mg base CX0 1 "divisor" (spR K Sdiv)) : Cl P w K mg base (L2.CX P w) 2 "share" (spX K Ssh (Tsh a_Nought)) := by
  refine clX T.d_share sc_share (fun ds d h => by obtain ⟨a, b, rfl, _⟩ := h; rfl) (fun ds d h => by obtain ⟨a, rfl, _⟩ := h; rfl) fun f cdv A outer s H E hr => ?_
  refine ⟨_, (pss_cons (ps_if (pt_cmpR (op_eqD hr.units) (pv 1) pe_int (nomark _))
  (pss_one (ps_raise rfl (takes_of rfl rfl rfl rfl) (pmk_own PySem.F.excBase_ValueError T.x_Nought T.m_Nought T.k_Nought (raises_own T.b_Nought T.t_Nought) rfl)))
  pss_nil)
  (pss_cons (ps_set (i := 2) sc_share.nd rfl (by first | exact Or.inl rfl | exact Or.inr rfl) (pcl c_divisor hr (by decide) rfl (pa_cons (pe_callB call_abs (by rfl) T.n_abs bt_abs (pa_cons (pv 0) pa_nil)) (pa_cons (pe_callB call_abs (by rfl) T.n_abs bt_abs (pa_cons (pv 1) pa_nil)) pa_nil))))
  (pss_cons (ps_if (pt_cmpR opLt (pv 1) pe_int (nomark _))
  (pss_one (ps_set (i := 2) sc_share.nd rfl (by first | exact Or.inl rfl | exact Or.inr rfl) (pe_op op_sub pe_int (pv 2))))
  pss_nil)
  (pss_one (ps_ret (pe_tup (pa_cons (pe_op opFd (pv 0) (pv 2)) (pa_cons (pe_op opFd (pv 1) (pv 2)) pa_nil)))))))), fun ds d h => ?_, fun ds C h => ?_⟩
  · obtain ⟨t, b, rfl, hb, hl, rfl⟩ := h
    have ab : ∀ {i : Nat} {x : Int} {Γ : Gam}, Γ[i]? = some (.fz (.int x)) → Ed K (tCB _ (tCons (tVar i) tNil)) Γ (.int x.natAbs) := fun {i x Γ} h => ed_cb (ea_cons (ed_fz i h) ea_nil) rc_abs
    refine sd_seq (Γ1 := [.fz (.int t), .fz (.int b), .no]) (sd_ifF (et_is (et_test (ed_op (ed_fz 1 rfl) (ed_int 0) r2_eqI)) (decide_eq_false hb)) sd_next) ?_
    refine sd_seq (Γ1 := [.fz (.int t), .fz (.int b), .fz (.int (Nat.gcd t.natAbs b.natAbs : Nat))]) (sd_set 2 (ed_call (ea_cons (ab rfl) (ea_cons (ab rfl) ea_nil)) ⟨_, _, rfl, rfl⟩)) ?_
    refine sd_seq (Γ1 := [.fz (.int t), .fz (.int b), .fz (.int (cmn t b))]) (sd_if (et_test (ed_op (ed_fz 1 rfl) (ed_int 0) r2_ltI)) (fun h => ?_) fun h => ?_) ?_
    · have e : cmn t b = 0 - (Nat.gcd t.natAbs b.natAbs : Nat) := if_pos (of_decide_eq_true h)
      rw [e]
      exact sd_set 2 (ed_op (ed_int 0) (ed_fz 2 rfl) r2_subI)
    · have e : cmn t b = (Nat.gcd t.natAbs b.natAbs : Nat) := if_neg (of_decide_eq_false h)
      rw [e]
      exact sd_next
    · exact sd_ret (ed_tup (ea_cons (ed_op (ed_fz 0 rfl) (ed_fz 2 rfl) (r2_fd (cmn_fd hb hl))) (ea_cons (ed_op (ed_fz 1 rfl) (ed_fz 2 rfl) (r2_fd (cmn_fd hb hl))) ea_nil)))
  · obtain ⟨t, rfl, rfl⟩ := h
    exact sd_stop (sd_ifT (et_is (et_test (ed_op (ed_fz 1 rfl) (ed_int 0) r2_eqI)) (decide_eq_true rfl)) sd_raise) rfl

theorem ok_word_Nought (T : Tx K mg a_WeighError a_Nought a_NoText a_NoRow a_NoMachine a_NoWord a_OtherSigns a_TooMany) : ClE P w K mg base 1 "_law_word_of" a_Nought (.tup [.str "refused", .str "nought"]) := by
  refine clE T.d__law_word_of sc_law_word_of rfl fun f cdv A outer s H p hz hf hr => ?_
  refine ⟨_, (pss_cons (ps_set (i := 1) sc_law_word_of.nd rfl (by first | exact Or.inl rfl | exact Or.inr rfl) (pe_op opAdd (pe_op opMul (pe_lst (pa_cons pe_str pa_nil)) (pe_callTy callInt (by rfl) T.n_int bt_int (pa_cons (pe_callB (call_isP (p := p) List.mem_cons_self T.ge_Nought hz hf) (by rfl) T.n_isinstance bt_isinstance (pa_cons (pv 0) (pa_cons (pe_glob (v := .ref a_Nought) rfl T.m_Nought rfl) pa_nil))) pa_nil))) (pe_op opMul (pe_lst (pa_cons pe_str pa_nil)) (pe_callTy callInt (by rfl) T.n_int bt_int (pa_cons (pe_callB (call_isP (p := p) List.mem_cons_self T.ge_Nought hz hf) (by rfl) T.n_isinstance bt_isinstance (pa_cons (pv 0) (pa_cons (pe_glob (v := .ref a_NoText) rfl T.m_NoText rfl) pa_nil))) pa_nil)))))
  (pss_cons (ps_set (i := 1) sc_law_word_of.nd rfl (by first | exact Or.inl rfl | exact Or.inr rfl) (pe_op opAdd (pe_op opAdd (pv 1) (pe_op opMul (pe_lst (pa_cons pe_str pa_nil)) (pe_callTy callInt (by rfl) T.n_int bt_int (pa_cons (pe_callB (call_isP (p := p) List.mem_cons_self T.ge_Nought hz hf) (by rfl) T.n_isinstance bt_isinstance (pa_cons (pv 0) (pa_cons (pe_glob (v := .ref a_NoRow) rfl T.m_NoRow rfl) pa_nil))) pa_nil)))) (pe_op opMul (pe_lst (pa_cons pe_str pa_nil)) (pe_callTy callInt (by rfl) T.n_int bt_int (pa_cons (pe_callB (call_isP (p := p) List.mem_cons_self T.ge_Nought hz hf) (by rfl) T.n_isinstance bt_isinstance (pa_cons (pv 0) (pa_cons (pe_glob (v := .ref a_NoMachine) rfl T.m_NoMachine rfl) pa_nil))) pa_nil)))))
  (pss_cons (ps_set (i := 1) sc_law_word_of.nd rfl (by first | exact Or.inl rfl | exact Or.inr rfl) (pe_op opAdd (pe_op opAdd (pv 1) (pe_op opMul (pe_lst (pa_cons pe_str pa_nil)) (pe_callTy callInt (by rfl) T.n_int bt_int (pa_cons (pe_callB (call_isP (p := p) List.mem_cons_self T.ge_Nought hz hf) (by rfl) T.n_isinstance bt_isinstance (pa_cons (pv 0) (pa_cons (pe_glob (v := .ref a_NoWord) rfl T.m_NoWord rfl) pa_nil))) pa_nil)))) (pe_op opMul (pe_lst (pa_cons pe_str pa_nil)) (pe_callTy callInt (by rfl) T.n_int bt_int (pa_cons (pe_callB (call_isP (p := p) List.mem_cons_self T.ge_Nought hz hf) (by rfl) T.n_isinstance bt_isinstance (pa_cons (pv 0) (pa_cons (pe_glob (v := .ref a_OtherSigns) rfl T.m_OtherSigns rfl) pa_nil))) pa_nil)))))
  (pss_cons (ps_set (i := 1) sc_law_word_of.nd rfl (by first | exact Or.inl rfl | exact Or.inr rfl) (pe_op opAdd (pe_op opAdd (pv 1) (pe_op opMul (pe_lst (pa_cons pe_str pa_nil)) (pe_callTy callInt (by rfl) T.n_int bt_int (pa_cons (pe_callB (call_isP (p := p) List.mem_cons_self T.ge_Nought hz hf) (by rfl) T.n_isinstance bt_isinstance (pa_cons (pv 0) (pa_cons (pe_glob (v := .ref a_TooMany) rfl T.m_TooMany rfl) pa_nil))) pa_nil)))) (pe_op opMul (pe_lst (pa_cons pe_str pa_nil)) (pe_callTy callInt (by rfl) T.n_int bt_int (pa_cons (pe_not (pe_callB (call_isP (p := p) List.mem_cons_self T.ge_Nought hz hf) (by rfl) T.n_isinstance bt_isinstance (pa_cons (pv 0) (pa_cons (pe_bltn (v := .ty "ValueError") (by rfl) T.n_ValueError bt_ValueError rfl) pa_nil)))) pa_nil)))))
  (pss_one (ps_ret (pe_tup (pa_cons pe_str (pa_cons (pe_join pe_str (pv 1)) pa_nil))))))))), ?_⟩
  have item : ∀ {Γ : Gam} {x : Str} {D' : Addr} {b : Bool}, Γ[0]? = some (.fz (.adr p.1)) → PySem.W.kitOne K (.ref a_Nought) (.ref D') = some b →
      Ed K (tOp rMulA (tLst (tCons (tC (.str x)) tNil)) (tCB rIntA (tCons (tCB (rIsE K a_Nought p.1) (tCons (tVar 0) (tCons (tC (.ref D')) tNil))) tNil))) Γ (.lst (if b then [.str x] else [])) := fun {Γ x D' b} h k =>
    ed_is (ed_op (ed_lst (ea_cons (ed_str _) ea_nil)) (ed_cb (ea_cons (ed_cb (ea_cons (ed_fz 0 h) (ea_cons (ed_adr _) ea_nil)) (rc_isP k)) ea_nil) rc_intB) (r2_mulL (Nat.le_of_ble_eq_true (by cases b <;> rfl)) (by cases b <;> decide))) (by cases b <;> rfl)
  have bare : ∀ {Γ : Gam}, Γ[0]? = some (.fz (.adr p.1)) →
      Ed K (tOp rMulA (tLst (tCons (tC (.str "bare")) tNil)) (tCB rIntA (tCons (tNotV (tCB (rIsE K a_Nought p.1) (tCons (tVar 0) (tCons (tC (.ty "ValueError")) tNil)))) tNil))) Γ (.lst []) := fun {Γ} h =>
    ed_is (ed_op (ed_lst (ea_cons (ed_str _) ea_nil)) (ed_cb (ea_cons (ed_notV (ed_cb (ea_cons (ed_fz 0 h) (ea_cons (ed_ty _) ea_nil)) (rc_isPT T.iv_Nought))) ea_nil) rc_intB) (r2_mulL (by decide) (by decide))) rfl
  refine sd_seq (sd_set 1 (ed_op (item rfl T.is_Nought_Nought) (item rfl T.is_Nought_NoText) (r2_addL (by decide)))) ?_
  refine sd_seq (sd_set 1 (ed_op (ed_op (ed_fz 1 rfl) (item rfl T.is_Nought_NoRow) (r2_addL (by decide))) (item rfl T.is_Nought_NoMachine) (r2_addL (by decide)))) ?_
  refine sd_seq (sd_set 1 (ed_op (ed_op (ed_fz 1 rfl) (item rfl T.is_Nought_NoWord) (r2_addL (by decide))) (item rfl T.is_Nought_OtherSigns) (r2_addL (by decide)))) ?_
  refine sd_seq (sd_set 1 (ed_op (ed_op (ed_fz 1 rfl) (item rfl T.is_Nought_TooMany) (r2_addL (by decide))) (bare rfl) (r2_addL (by decide)))) ?_
  exact sd_ret (ed_tup (ea_cons (ed_str _) (ea_cons (ed_join (ys := ["nought"]) (ed_str _) (ed_fz 1 rfl) (by decide)) ea_nil)))

/-! ### the mathematics of shares -/
theorem log2_mono {n m : Nat} (h : n ≤ m) : n.log2 ≤ m.log2 := by
  by_cases h0 : n = 0
  · subst h0; simp
  · have : n < 2 ^ (m.log2 + 1) := Nat.lt_of_le_of_lt h ((Nat.log2_lt (by omega)).mp (Nat.lt_succ_self _))
    have := (Nat.log2_lt h0).mpr this
    omega
theorem cmn_natAbs (t b : Int) : (cmn t b).natAbs = Nat.gcd t.natAbs b.natAbs := by unfold cmn; split <;> omega
theorem cmn_dvd (t b : Int) : cmn t b ∣ t ∧ cmn t b ∣ b := by
  rw [← Int.natAbs_dvd_natAbs, ← Int.natAbs_dvd_natAbs, cmn_natAbs]
  exact ⟨Nat.gcd_dvd_left _ _, Nat.gcd_dvd_right _ _⟩
theorem mkS_mul {t b : Int} (hb : b ≠ 0) : t = cmn t b * (mkS t b).1 ∧ b = cmn t b * (mkS t b).2 := by
  obtain ⟨h1, h2⟩ := cmn_dvd t b
  unfold mkS
  constructor
  · show t = cmn t b * t.fdiv (cmn t b)
    rw [Int.fdiv_eq_ediv_of_dvd h1, Int.mul_ediv_cancel' h1]
  · show b = cmn t b * b.fdiv (cmn t b)
    rw [Int.fdiv_eq_ediv_of_dvd h2, Int.mul_ediv_cancel' h2]
theorem cmn_sign {t b : Int} (hb : b ≠ 0) : 0 < cmn t b * b := by
  have hg : 0 < Nat.gcd t.natAbs b.natAbs := Nat.gcd_pos_of_pos_right _ (by omega)
  unfold cmn
  split
  · exact Int.mul_pos_of_neg_of_neg (by omega) (by omega)
  · exact Int.mul_pos (by omega) (by omega)
theorem mkS_pos {t b : Int} (hb : b ≠ 0) : 0 < (mkS t b).2 := by
  have h1 := (mkS_mul (t := t) hb).2
  have h2 := cmn_sign (t := t) hb
  have h3 : 0 < cmn t b * cmn t b * (mkS t b).2 := by
    rw [Int.mul_assoc, ← h1]; exact h2
  have h4 : 0 < cmn t b * cmn t b := by
    have := cmn_ne (t := t) hb
    rcases Int.lt_or_gt_of_ne this with h | h
    · exact Int.mul_pos_of_neg_of_neg h h
    · exact Int.mul_pos h h
  rcases Int.lt_trichotomy (mkS t b).2 0 with h | h | h
  · have := Int.mul_neg_of_pos_of_neg h4 h; omega
  · rw [h, Int.mul_zero] at h3; omega
  · exact h
theorem mkS_cop {t b : Int} (hb : b ≠ 0) : Nat.gcd (mkS t b).1.natAbs (mkS t b).2.natAbs = 1 := by
  obtain ⟨h1, h2⟩ := mkS_mul (t := t) hb
  have hg : 0 < Nat.gcd t.natAbs b.natAbs := Nat.gcd_pos_of_pos_right _ (by omega)
  have e1 : t.natAbs = Nat.gcd t.natAbs b.natAbs * (mkS t b).1.natAbs := by
    have := congrArg Int.natAbs h1
    rw [Int.natAbs_mul, cmn_natAbs] at this
    exact this
  have e2 : b.natAbs = Nat.gcd t.natAbs b.natAbs * (mkS t b).2.natAbs := by
    have := congrArg Int.natAbs h2
    rw [Int.natAbs_mul, cmn_natAbs] at this
    exact this
  have e3 : Nat.gcd t.natAbs b.natAbs = Nat.gcd t.natAbs b.natAbs * Nat.gcd (mkS t b).1.natAbs (mkS t b).2.natAbs := by
    rw [← Nat.gcd_mul_left, ← e1, ← e2]
  have := Nat.eq_of_mul_eq_mul_left hg (show Nat.gcd t.natAbs b.natAbs * 1 = Nat.gcd t.natAbs b.natAbs * Nat.gcd (mkS t b).1.natAbs (mkS t b).2.natAbs by rw [Nat.mul_one]; exact e3)
  exact this.symm
theorem mkS_cross {t b : Int} (hb : b ≠ 0) : (mkS t b).1 * b = t * (mkS t b).2 := by
  obtain ⟨h1, h2⟩ := mkS_mul (t := t) hb
  have e : (mkS t b).1 * b = (mkS t b).1 * (cmn t b * (mkS t b).2) := congrArg _ h2
  have e2 : t * (mkS t b).2 = cmn t b * (mkS t b).1 * (mkS t b).2 := congrArg (· * (mkS t b).2) h1
  rw [e, e2, ← Int.mul_assoc, Int.mul_comm (mkS t b).1]
theorem mkS_good {t b : Int} (hb : b ≠ 0) : isSh (sh (mkS t b)) = true := by
  have h1 := mkS_pos (t := t) hb
  have h2 := mkS_cop (t := t) hb
  have e : (mkS t b).2.toNat = (mkS t b).2.natAbs := by omega
  show (decide (0 < (mkS t b).2) && decide (Nat.gcd (mkS t b).1.natAbs (mkS t b).2.toNat = 1)) = true
  rw [e, decide_eq_true h1, decide_eq_true h2]; rfl
/-- smaller than at first -/
theorem mkS_le {t b : Int} (hb : b ≠ 0) : (mkS t b).1.natAbs ≤ t.natAbs ∧ (mkS t b).2.natAbs ≤ b.natAbs := by
  obtain ⟨h1, h2⟩ := mkS_mul (t := t) hb
  have hc := cmn_ne (t := t) hb
  have e1 := congrArg Int.natAbs h1
  have e2 := congrArg Int.natAbs h2
  rw [Int.natAbs_mul] at e1 e2
  have : 1 ≤ (cmn t b).natAbs := by omega
  constructor
  · rw [e1]; exact Nat.le_mul_of_pos_left _ this
  · rw [e2]; exact Nat.le_mul_of_pos_left _ this

/-! ### plus, less, times, over -/
def LIM : Nat := 8000
theorem log_lim {x : Int} {n : Nat} (h : x.natAbs < 2 ^ n) (h0 : 0 < n) (hn : n ≤ LIM) : x.natAbs.log2 < 9000 := Nat.lt_of_lt_of_le (log2_le h h0) (Nat.le_trans hn (by decide))
def Sz (n : Nat) (p : Int × Int) : Prop := 0 < n ∧ p.1.natAbs < 2 ^ n ∧ p.2.natAbs < 2 ^ n
theorem mul_lt {x y : Int} {n m : Nat} (hx : x.natAbs < 2 ^ n) (hy : y.natAbs < 2 ^ m) : (x * y).natAbs < 2 ^ (n + m) := by
  rw [Int.natAbs_mul, Nat.pow_add]
  exact Nat.mul_lt_mul'' hx hy
theorem big_of {x y : Int} {n m : Nat} (hx : x.natAbs < 2 ^ n) (hy : y.natAbs < 2 ^ m) (h0 : 0 < n) (h1 : 0 < m) (h : n + m ≤ LIM) : CBig x y := CBig.of hx hy h0 h1 (Nat.le_trans h (by decide))
def Two (ds : List D) (p q : Int × Int) : Prop := ds = [sh p, sh q] ∧ p.2 ≠ 0 ∧ q.2 ≠ 0 ∧ ∃ n m, Sz n p ∧ Sz m q ∧ n + m ≤ LIM
def plusS (p q : Int × Int) : Int × Int := mkS (p.1 * q.2 + q.1 * p.2) (p.2 * q.2)
def lessS (p q : Int × Int) : Int × Int := mkS (p.1 * q.2 - q.1 * p.2) (p.2 * q.2)
def timesS (p q : Int × Int) : Int × Int := mkS (p.1 * q.1) (p.2 * q.2)
def overS (p q : Int × Int) : Int × Int := mkS (p.1 * q.2) (p.2 * q.1)
def Spl : List D → D → Prop := fun ds d => ∃ p q, Two ds p q ∧ d = sh (plusS p q)
def Sle : List D → D → Prop := fun ds d => ∃ p q, Two ds p q ∧ d = sh (lessS p q)
def Sti : List D → D → Prop := fun ds d => ∃ p q, Two ds p q ∧ d = sh (timesS p q)
def Sov : List D → D → Prop := fun ds d => ∃ p q, Two ds p q ∧ q.1 ≠ 0 ∧ d = sh (overS p q)
def Tov (C : Addr) : List D → Addr → Prop := fun ds c => ∃ p q, Two ds p q ∧ q.1 = 0 ∧ c = C
section
variable {K : PySem.W.Frag} {Γ : Gam} {p q : Int × Int}
theorem ix0 {te : TE} (h : Ed K te Γ (sh p)) : Ed K (tOp (rIx K) te (tC (.int 0))) Γ (.int p.1) := ed_op h (ed_int 0) (r2_ixT rfl)
theorem ix1 {te : TE} (h : Ed K te Γ (sh p)) : Ed K (tOp (rIx K) te (tC (.int 1))) Γ (.int p.2) := ed_op h (ed_int 1) (r2_ixT rfl)
end
theorem two_len {ds : List D} {p q : Int × Int} (h : Two ds p q) : ds.length = 2 := by rw [h.1]; rfl
theorem two_den {ds : List D} {p q : Int × Int} (h : Two ds p q) : p.2 * q.2 ≠ 0 ∧ (p.2 * q.2).natAbs.log2 < 9000 := by
  obtain ⟨_, h1, h2, n, m, z1, z2, z⟩ := h
  exact ⟨Int.mul_ne_zero h1 h2, log_lim (mul_lt z1.2.2 z2.2.2) (by have := z1.1; omega) z⟩
theorem ok_plus (T : Tx K mg a_WeighError a_Nought a_NoText a_NoRow a_NoMachine a_NoWord a_OtherSigns a_TooMany) (c_share : Cl P w K mg base (L2.CX P w) 2 "share" (spX K Ssh (Tsh a_Nought))) : Cl P w K mg base CX0 3 "plus" (spR K Spl) := by
  refine clR T.d_plus sc_plus (fun ds d h => by obtain ⟨p, q, h, _⟩ := h; exact two_len h) fun f cdv A outer s H E hr => ?_
  refine ⟨_, (pss_one (ps_ret (pclX c_share hr (by decide) rfl (pa_cons (pe_op opAdd (pe_op opMul (pe_ix ix_seq (pv 0) pe_int (fun _ _ => rfl)) (pe_ix ix_seq (pv 1) pe_int (fun _ _ => rfl))) (pe_op opMul (pe_ix ix_seq (pv 1) pe_int (fun _ _ => rfl)) (pe_ix ix_seq (pv 0) pe_int (fun _ _ => rfl)))) (pa_cons (pe_op opMul (pe_ix ix_seq (pv 0) pe_int (fun _ _ => rfl)) (pe_ix ix_seq (pv 1) pe_int (fun _ _ => rfl))) pa_nil))))), fun ds d h => ?_⟩
  obtain ⟨p, q, h, rfl⟩ := h
  obtain ⟨d1, d2⟩ := two_den h
  obtain ⟨rfl, h1, h2, n, m, z1, z2, z⟩ := h
  exact sd_ret (ed_callX (ea_cons (ed_op (ed_op (ix0 (ed_fz 0 rfl)) (ix1 (ed_fz 1 rfl)) (r2_mulI (big_of z1.2.1 z2.2.2 z1.1 z2.1 z))) (ed_op (ix0 (ed_fz 1 rfl)) (ix1 (ed_fz 0 rfl)) (r2_mulI (big_of z2.2.1 z1.2.2 z2.1 z1.1 (by omega)))) (by first | exact r2_addI | exact r2_subI)) (ea_cons (ed_op (ix1 (ed_fz 0 rfl)) (ix1 (ed_fz 1 rfl)) (r2_mulI (big_of z1.2.2 z2.2.2 z1.1 z2.1 z))) ea_nil)) ⟨_, _, rfl, d1, d2, rfl⟩)

theorem ok_less (T : Tx K mg a_WeighError a_Nought a_NoText a_NoRow a_NoMachine a_NoWord a_OtherSigns a_TooMany) (c_share : Cl P w K mg base (L2.CX P w) 2 "share" (spX K Ssh (Tsh a_Nought))) : Cl P w K mg base CX0 3 "less" (spR K Sle) := by
  refine clR T.d_less sc_less (fun ds d h => by obtain ⟨p, q, h, _⟩ := h; exact two_len h) fun f cdv A outer s H E hr => ?_
  refine ⟨_, (pss_one (ps_ret (pclX c_share hr (by decide) rfl (pa_cons (pe_op op_sub (pe_op opMul (pe_ix ix_seq (pv 0) pe_int (fun _ _ => rfl)) (pe_ix ix_seq (pv 1) pe_int (fun _ _ => rfl))) (pe_op opMul (pe_ix ix_seq (pv 1) pe_int (fun _ _ => rfl)) (pe_ix ix_seq (pv 0) pe_int (fun _ _ => rfl)))) (pa_cons (pe_op opMul (pe_ix ix_seq (pv 0) pe_int (fun _ _ => rfl)) (pe_ix ix_seq (pv 1) pe_int (fun _ _ => rfl))) pa_nil))))), fun ds d h => ?_⟩
  obtain ⟨p, q, h, rfl⟩ := h
  obtain ⟨d1, d2⟩ := two_den h
  obtain ⟨rfl, h1, h2, n, m, z1, z2, z⟩ := h
  exact sd_ret (ed_callX (ea_cons (ed_op (ed_op (ix0 (ed_fz 0 rfl)) (ix1 (ed_fz 1 rfl)) (r2_mulI (big_of z1.2.1 z2.2.2 z1.1 z2.1 z))) (ed_op (ix0 (ed_fz 1 rfl)) (ix1 (ed_fz 0 rfl)) (r2_mulI (big_of z2.2.1 z1.2.2 z2.1 z1.1 (by omega)))) (by first | exact r2_addI | exact r2_subI)) (ea_cons (ed_op (ix1 (ed_fz 0 rfl)) (ix1 (ed_fz 1 rfl)) (r2_mulI (big_of z1.2.2 z2.2.2 z1.1 z2.1 z))) ea_nil)) ⟨_, _, rfl, d1, d2, rfl⟩)

theorem ok_times (T : Tx K mg a_WeighError a_Nought a_NoText a_NoRow a_NoMachine a_NoWord a_OtherSigns a_TooMany) (c_share : Cl P w K mg base (L2.CX P w) 2 "share" (spX K Ssh (Tsh a_Nought))) : Cl P w K mg base CX0 3 "times" (spR K Sti) := by
  refine clR T.d_times sc_times (fun ds d h => by obtain ⟨p, q, h, _⟩ := h; exact two_len h) fun f cdv A outer s H E hr => ?_
  refine ⟨_, (pss_one (ps_ret (pclX c_share hr (by decide) rfl (pa_cons (pe_op opMul (pe_ix ix_seq (pv 0) pe_int (fun _ _ => rfl)) (pe_ix ix_seq (pv 1) pe_int (fun _ _ => rfl))) (pa_cons (pe_op opMul (pe_ix ix_seq (pv 0) pe_int (fun _ _ => rfl)) (pe_ix ix_seq (pv 1) pe_int (fun _ _ => rfl))) pa_nil))))), fun ds d h => ?_⟩
  obtain ⟨p, q, h, rfl⟩ := h
  obtain ⟨d1, d2⟩ := two_den h
  obtain ⟨rfl, h1, h2, n, m, z1, z2, z⟩ := h
  exact sd_ret (ed_callX (ea_cons (ed_op (ix0 (ed_fz 0 rfl)) (ix0 (ed_fz 1 rfl)) (r2_mulI (big_of z1.2.1 z2.2.1 z1.1 z2.1 z))) (ea_cons (ed_op (ix1 (ed_fz 0 rfl)) (ix1 (ed_fz 1 rfl)) (r2_mulI (big_of z1.2.2 z2.2.2 z1.1 z2.1 z))) ea_nil)) ⟨_, _, rfl, d1, d2, rfl⟩)

theorem ok_over (T : Tx K mg a_WeighError a_Nought a_NoText a_NoRow a_NoMachine a_NoWord a_OtherSigns a_TooMany) (c_share : Cl P w K mg base (L2.CX P w) 2 "share" (spX K Ssh (Tsh a_Nought))) : Cl P w K mg base (L2.CX P w) 3 "over" (spX K Sov (Tov a_Nought)) := by
  refine clX T.d_over sc_over (fun ds d h => by obtain ⟨p, q, h, _⟩ := h; exact two_len h) (fun ds d h => by obtain ⟨p, q, h, _⟩ := h; exact two_len h) fun f cdv A outer s H E hr => ?_
  refine ⟨_, (pss_one (ps_ret (pclR c_share hr (by decide) rfl (passes_call (takes_of rfl rfl rfl rfl) fun _ _ _ _ h => h) (pa_cons (pe_op opMul (pe_ix ix_seq (pv 0) pe_int (fun _ _ => rfl)) (pe_ix ix_seq (pv 1) pe_int (fun _ _ => rfl))) (pa_cons (pe_op opMul (pe_ix ix_seq (pv 0) pe_int (fun _ _ => rfl)) (pe_ix ix_seq (pv 1) pe_int (fun _ _ => rfl))) pa_nil))))), fun ds d h => ?_, fun ds C h => ?_⟩
  · obtain ⟨p, q, h, hq, rfl⟩ := h
    obtain ⟨rfl, h1, h2, n, m, z1, z2, z⟩ := h
    exact sd_ret (ed_callX (ea_cons (ed_op (ix0 (ed_fz 0 rfl)) (ix1 (ed_fz 1 rfl)) (r2_mulI (big_of z1.2.1 z2.2.2 z1.1 z2.1 z))) (ea_cons (ed_op (ix1 (ed_fz 0 rfl)) (ix0 (ed_fz 1 rfl)) (r2_mulI (big_of z1.2.2 z2.2.1 z1.1 z2.1 z))) ea_nil))
      ⟨_, _, rfl, Int.mul_ne_zero h1 hq, log_lim (mul_lt z1.2.2 z2.2.1) (by have := z1.1; omega) z, rfl⟩)
  · obtain ⟨p, q, h, hq, rfl⟩ := h
    obtain ⟨rfl, h1, h2, n, m, z1, z2, z⟩ := h
    exact sd_retX (xd_callX (ea_cons (ed_op (ix0 (ed_fz 0 rfl)) (ix1 (ed_fz 1 rfl)) (r2_mulI (big_of z1.2.1 z2.2.2 z1.1 z2.1 z))) (ea_cons (ed_op (ix1 (ed_fz 0 rfl)) (ix0 (ed_fz 1 rfl)) (r2_mulI (big_of z1.2.2 z2.2.1 z1.1 z2.1 z))) ea_nil))
      ⟨_, by rw [hq, Int.mul_zero], rfl⟩)

/-! ### the script's cells -/
def cellAt (ns : List Int) (k : Nat) : Int := ns.getD k 0
theorem atI_nat' {α : Type} {xs : List α} {k : Nat} (h : k < xs.length) : atI xs (k : Int) = some xs[k] := by
  unfold atI ixN
  rw [if_pos (by omega), if_pos (by omega)]
  simp [h]
theorem atI_getD {α : Type} {xs : List α} {j : Int} (h0 : 0 ≤ j) (h : j < xs.length) (d : α) : atI xs j = some (xs.getD j.toNat d) := by
  obtain ⟨k, rfl⟩ : ∃ k : Nat, j = k := ⟨j.toNat, by omega⟩
  have hk : k < xs.length := by omega
  rw [atI_nat' hk]
  simp [List.getD, hk]
def Sca : List D → D → Prop := fun ds d => ∃ (ns : List Int) (k : Nat), ds = [.scr ns, .int k] ∧ d = .int (cellAt ns k)
theorem ok_cell_at (T : Tx K mg a_WeighError a_Nought a_NoText a_NoRow a_NoMachine a_NoWord a_OtherSigns a_TooMany) : Cl P w K mg base CX0 1 "_law_cell_at" (spR K Sca) := by
  refine clR T.d__law_cell_at sc_law_cell_at (fun ds d h => by obtain ⟨a, b, rfl, _⟩ := h; rfl) fun f cdv A outer s H E hr => ?_
  refine ⟨_, (pss_cons (ps_if (pt_cmpR opLt (pv 1) (pe_callB callLen (by rfl) T.n_len bt_len (pa_cons (pv 0) pa_nil)) (nomark _))
  (pss_one (ps_ret (pe_ix ix_seq (pv 0) (pv 1) (fun _ _ => rfl))))
  pss_nil)
  (pss_one (ps_ret pe_int))), fun ds d h => ?_⟩
  obtain ⟨ns, k, rfl, rfl⟩ := h
  have test : Et K (tTest (tOp rLtA (tVar 1) (tCB (rLenA K) (tCons (tVar 0) tNil)))) [.fz (.scr ns), .fz (.int k)] (decide ((k : Int) < ns.length)) := et_test (ed_op (ed_fz 1 rfl) (ed_cb (ea_cons (ed_fz 0 rfl) ea_nil) rc_lenP) r2_ltI)
  by_cases hk : k < ns.length
  · have e : cellAt ns k = ns[k] := by simp [cellAt, List.getD, hk]
    rw [e]
    exact sd_stop (sd_ifT (et_is test (decide_eq_true (by omega))) (sd_ret (ed_op (ed_fz 0 rfl) (ed_fz 1 rfl) (r2_ixP (atI_nat' hk))))) rfl
  · have e : cellAt ns k = 0 := by simp [cellAt, List.getD, List.getElem?_eq_none (show ns.length ≤ k by omega)]
    rw [e]
    exact sd_seq (sd_ifF (et_is test (decide_eq_false (by omega))) sd_next) (sd_ret (ed_int 0))
/-- a cell is not too great -/
def Sm (c : Int) : Prop := c.natAbs.log2 ≤ 1048576
theorem sm_bits {c : Int} (h : Builtin.Int.intBits c ≤ 1048576) : Sm c := by
  unfold Sm
  unfold Builtin.Int.intBits at h
  split at h
  · rename_i h0
    have : c.natAbs = 0 := by simpa using h0
    rw [this]; simp
  · omega
theorem sm_at {ns : List Int} (h : ∀ z ∈ ns, Builtin.Int.intBits z ≤ 1048576) (k : Nat) : Sm (cellAt ns k) := by
  by_cases hk : k < ns.length
  · have e : cellAt ns k = ns[k] := by simp [cellAt, List.getD, hk]
    rw [e]; exact sm_bits (h _ (List.getElem_mem hk))
  · have e : cellAt ns k = 0 := by simp [cellAt, List.getD, List.getElem?_eq_none (show ns.length ≤ k by omega)]
    rw [e]; unfold Sm; simp

/-! ### numbers by cells -/
def numL : List Int := [10 ^ 60 - 1, 1 - 10 ^ 60, 2 ^ 64, 0, 1]
def num (c : Int) : Int := if c % 5 < 3 then c / 5 % 61 - 30 else if c % 5 = 3 then numL.getD (c / 5 % 5).toNat 0 else c / 5 * 48271 ^ 12 % (2 * 10 ^ 60 - 1) - (10 ^ 60 - 1)
theorem ediv_le (c : Int) {k : Int} (hk : 0 < k) : (c / k).natAbs ≤ c.natAbs := by
  by_cases h : c < 0
  · have h1 : c ≤ c / k := Int.le_ediv_of_mul_le hk (by
      have h1 : 0 ≤ (k - 1) * (-c) := Int.mul_nonneg (by omega) (by omega)
      have h2 : (k - 1) * (-c) = c - c * k := by rw [Int.mul_neg, Int.sub_mul, Int.one_mul, Int.mul_comm k c]; omega
      omega)
    have h4 : c / k < 0 := Int.ediv_neg_of_neg_of_pos h hk
    omega
  · have h1 : c / k ≤ c := Int.ediv_le_self k (by omega)
    have h2 : 0 ≤ c / k := Int.ediv_nonneg (by omega) (by omega)
    omega
theorem sm_div {c k : Int} (h : Sm c) (hk : 0 < k) : Sm (c / k) := Nat.le_trans (log2_mono (ediv_le c hk)) h
theorem num_lt (c : Int) : (num c).natAbs < 2 ^ 200 := by
  unfold num
  split
  · omega
  · split
    · have h1 : 0 ≤ c / 5 % 5 := Int.emod_nonneg _ (by decide)
      have h2 : c / 5 % 5 < 5 := Int.emod_lt_of_pos _ (by decide)
      generalize c / 5 % 5 = j at h1 h2
      have : j = 0 ∨ j = 1 ∨ j = 2 ∨ j = 3 ∨ j = 4 := by omega
      rcases this with rfl | rfl | rfl | rfl | rfl <;> decide
    · have h1 : 0 ≤ c / 5 * 48271 ^ 12 % (2 * 10 ^ 60 - 1) := Int.emod_nonneg _ (by decide)
      have h2 : c / 5 * 48271 ^ 12 % (2 * 10 ^ 60 - 1) < 2 * 10 ^ 60 - 1 := Int.emod_lt_of_pos _ (by decide)
      generalize c / 5 * 48271 ^ 12 % (2 * 10 ^ 60 - 1) = j at h1 h2
      omega
def Snu : List D → D → Prop := fun ds d => ∃ c : Int, ds = [.int c] ∧ Sm c ∧ d = .int (num c)
theorem ok_number (T : Tx K mg a_WeighError a_Nought a_NoText a_NoRow a_NoMachine a_NoWord a_OtherSigns a_TooMany) : Cl P w K mg base CX0 1 "_law_number" (spR K Snu) := by
  refine clR T.d__law_number sc_law_number (fun ds d h => by obtain ⟨a, rfl, _⟩ := h; rfl) fun f cdv A outer s H E hr => ?_
  refine ⟨_, (pss_cons (ps_if (pt_cmpR opLt (pe_op op_mod (pv 0) pe_int) pe_int (nomark _))
  (pss_one (ps_ret (pe_op op_sub (pe_op op_mod (pe_op opFd (pv 0) pe_int) pe_int) pe_int)))
  pss_nil)
  (pss_cons (ps_if (pt_cmpR (op_eqD hr.units) (pe_op op_mod (pv 0) pe_int) pe_int (nomark _))
  (pss_one (ps_ret (pe_ix ix_seq (pe_lst (pa_cons (pe_op op_sub (pe_op op_pow pe_int pe_int) pe_int) (pa_cons (pe_op op_sub pe_int (pe_op op_pow pe_int pe_int)) (pa_cons (pe_op op_pow pe_int pe_int) (pa_cons pe_int (pa_cons pe_int pa_nil)))))) (pe_op op_mod (pe_op opFd (pv 0) pe_int) pe_int) (fun _ _ => rfl))))
  pss_nil)
  (pss_one (ps_ret (pe_op op_sub (pe_op op_mod (pe_op opMul (pe_op opFd (pv 0) pe_int) (pe_op op_pow pe_int pe_int)) (pe_op op_sub (pe_op opMul pe_int (pe_op op_pow pe_int pe_int)) pe_int)) (pe_op op_sub (pe_op op_pow pe_int pe_int) pe_int)))))), fun ds d h => ?_⟩
  obtain ⟨c, rfl, hc, rfl⟩ := h
  have m5 : Ed K (tOp (rI (fun _ j => 0 < j) fun i j => .int (i % j)) (tVar 0) (tC (.int 5))) [.fz (.int c)] (.int (c % 5)) := ed_op (ed_fz 0 rfl) (ed_int 5) (r2_mod (by decide))
  have d5 : Ed K (tOp rFdA (tVar 0) (tC (.int 5))) [.fz (.int c)] (.int (c / 5)) := ed_op (ed_fz 0 rfl) (ed_int 5) (r2_fdP (by decide))
  have p10 : ∀ {Γ : Gam}, Ed K (tOp (rI CPow fun i j => .int (i ^ j.toNat)) (tC (.int 10)) (tC (.int 60))) Γ (.int (10 ^ 60)) := fun {Γ} => ed_op (ed_int 10) (ed_int 60) (r2_pow ⟨by decide, by decide, by decide⟩)
  by_cases h1 : c % 5 < 3
  · rw [show num c = c / 5 % 61 - 30 from if_pos h1]
    exact sd_stop (sd_ifT (et_is (et_test (ed_op m5 (ed_int 3) r2_ltI)) (decide_eq_true h1)) (sd_ret (ed_op (ed_op d5 (ed_int 61) (r2_mod (by decide))) (ed_int 30) r2_subI))) rfl
  · refine sd_seq (Γ1 := [.fz (.int c)]) (sd_ifF (et_is (et_test (ed_op m5 (ed_int 3) r2_ltI)) (decide_eq_false h1)) sd_next) ?_
    by_cases h2 : c % 5 = 3
    · rw [show num c = numL.getD (c / 5 % 5).toNat 0 from (if_neg h1).trans (if_pos h2)]
      have h3 : 0 ≤ c / 5 % 5 := Int.emod_nonneg _ (by decide)
      have h4 : c / 5 % 5 < 5 := Int.emod_lt_of_pos _ (by decide)
      refine sd_stop (sd_ifT (et_is (et_test (ed_op m5 (ed_int 3) r2_eqI)) (decide_eq_true h2)) (sd_ret (ed_op (ed_lst (ea_cons (ed_op p10 (ed_int 1) r2_subI) (ea_cons (ed_op (ed_int 1) p10 r2_subI) (ea_cons (ed_op (ed_int 2) (ed_int 64) (r2_pow ⟨by decide, by decide, by decide⟩)) (ea_cons (ed_int 0) (ea_cons (ed_int 1) ea_nil)))))) (ed_op d5 (ed_int 5) (r2_mod (by decide))) (r2_ixL ?_)))) rfl
      generalize c / 5 % 5 = j at h3 h4
      have : j = 0 ∨ j = 1 ∨ j = 2 ∨ j = 3 ∨ j = 4 := by omega
      rcases this with rfl | rfl | rfl | rfl | rfl <;> rfl
    · rw [show num c = c / 5 * 48271 ^ 12 % (2 * 10 ^ 60 - 1) - (10 ^ 60 - 1) from (if_neg h1).trans (if_neg h2)]
      refine sd_seq (Γ1 := [.fz (.int c)]) (sd_ifF (et_is (et_test (ed_op m5 (ed_int 3) r2_eqI)) (decide_eq_false h2)) sd_next) ?_
      have big : CBig (c / 5) (48271 ^ 12) := by
        have z := sm_div hc (show (0 : Int) < 5 by decide)
        unfold Sm at z
        have z2 : ((48271 : Int) ^ 12).natAbs.log2 < 1000 := by decide +kernel
        unfold CBig
        omega
      exact sd_ret (ed_op (ed_op (ed_op d5 (ed_op (ed_int 48271) (ed_int 12) (r2_pow ⟨by decide, by decide, by decide⟩)) (r2_mulI big)) (ed_op (ed_op (ed_int 2) p10 (r2_mulI (by unfold CBig; decide +kernel))) (ed_int 1) r2_subI) (r2_mod (by decide))) (ed_op p10 (ed_int 1) r2_subI) r2_subI)

theorem ok__law_whole (T : Tx K mg a_WeighError a_Nought a_NoText a_NoRow a_NoMachine a_NoWord a_OtherSigns a_TooMany) : Cl P w K mg base CX0 1 "_law_whole" (spR K Swh) := by
  refine clR T.d__law_whole sc_law_whole (fun ds d h => by obtain ⟨a, b, rfl, _⟩ := h; rfl) fun f cdv A outer s H E hr => ?_
  refine ⟨_, (pss_one (ps_ret (pe_and (pe_callB call_isi (by rfl) T.n_isinstance bt_isinstance (pa_cons (pv 0) (pa_cons (pe_bltn (v := .ty "int") (by rfl) T.n_int bt_int rfl) pa_nil))) (pe_one (pe_not (pe_callB call_isi (by rfl) T.n_isinstance bt_isinstance (pa_cons (pv 0) (pa_cons (pe_bltn (v := .ty "bool") (by rfl) T.n_bool bt_bool rfl) pa_nil)))))))), fun ds d h => ?_⟩
  obtain ⟨x, U, rfl, hx, rfl⟩ := h
  obtain ⟨h1, h2, h3, h4⟩ := isi_kind x hx
  refine sd_ret (ed_is (ed_andV (ed_cb (ea_cons (ed_fz 0 rfl) (ea_cons (ed_ty _) ea_nil)) (rc_isi hx h1)) fun _ => ed_notV (ed_cb (ea_cons (ed_fz 0 rfl) (ea_cons (ed_ty _) ea_nil)) (rc_isi hx h2))) ?_)
  rw [h4]
  by_cases e : U = "int"
  · subst e; rfl
  · by_cases e2 : U = "bool"
    · subst e2; rfl
    · rw [beq_eq_false_iff_ne.mpr e, beq_eq_false_iff_ne.mpr e2]; rfl

theorem ok_common (T : Tx K mg a_WeighError a_Nought a_NoText a_NoRow a_NoMachine a_NoWord a_OtherSigns a_TooMany) : Cl P w K mg base CX0 1 "_law_common" (spR K Sdiv) := by
  refine clR T.d__law_common sc_law_common (fun ds d h => by obtain ⟨a, b, rfl, _⟩ := h; rfl) fun f cdv A outer s H E hr => ?_
  refine ⟨_, (pss_cons (ps_while PassesOwn.never (pt_cmpR op_gt (pv 1) pe_int (nomark _))
  (pss_one (ps_par (i := 0) (j := 1) rfl sc_law_common.nd rfl rfl (by decide) rfl rfl (pa_cons (pv 1) (pa_cons (pe_op op_mod (pv 0) (pv 1)) pa_nil)) rfl)))
  (pss_one (ps_ret (pv 0)))), fun ds d h => ?_⟩
  obtain ⟨a, b, rfl, rfl⟩ := h
  refine sd_seq (Γ1 := [.fz (.int (Nat.gcd a b : Nat)), .fz (.int 0)]) (sd_whileE ?_) (sd_ret (ed_fz 0 rfl))
  show ∃ n, LoopW K E0 _ _ n [.fz (.int a), .fz (.int b)] _
  induction b using Nat.strongRecOn generalizing a with
  | _ b ih =>
    have test : Et K (tTest (tOp (rI0 fun i j => .bl (decide (j < i))) (tVar 1) (tC (.int 0)))) [.fz (.int a), .fz (.int b)] (decide ((0 : Int) < b)) := et_test (ed_op (ed_fz 1 rfl) (ed_int 0) r2_gt)
    by_cases hb : b = 0
    · subst hb
      rw [Nat.gcd_zero_right]
      exact ⟨0, .done test⟩
    · obtain ⟨n, hn⟩ := ih (a % b) (Nat.mod_lt _ (Nat.pos_of_ne_zero hb)) b
      rw [show Nat.gcd b (a % b) = Nat.gcd a b by rw [Nat.gcd_comm b, ← Nat.gcd_rec, Nat.gcd_comm]] at hn
      refine ⟨n + 1, .step (et_is test (decide_eq_true (by omega))) (Sd.toLp ?_) hn⟩
      exact sd_par (ea_cons (ed_fz 1 rfl) (ea_cons (ed_op (ed_fz 0 rfl) (ed_fz 1 rfl) (r2_mod (by omega))) ea_nil))

/-- the law's own share -/
def Sls : List D → D → Prop := fun ds d => ∃ t b : Int, ds = [.int t, .int b] ∧ 0 < b ∧ b.natAbs.log2 < 9000 ∧ d = sh (mkS t b)
theorem mkS_posB {t b : Int} (hb : 0 < b) : mkS t b = (t.fdiv (Nat.gcd t.natAbs b.toNat : Nat), b.fdiv (Nat.gcd t.natAbs b.toNat : Nat)) := by
  have e : cmn t b = (Nat.gcd t.natAbs b.toNat : Nat) := by
    unfold cmn
    rw [if_neg (by omega), show b.natAbs = b.toNat by omega]
  unfold mkS
  rw [e]
theorem ok_lshare (T : Tx K mg a_WeighError a_Nought a_NoText a_NoRow a_NoMachine a_NoWord a_OtherSigns a_TooMany) (c__law_common : Cl P w K mg base CX0 1 "_law_common" (spR K Sdiv)) : Cl P w K mg base CX0 2 "_law_share" (spR K Sls) := by
  refine clR T.d__law_share sc_law_share (fun ds d h => by obtain ⟨a, b, rfl, _⟩ := h; rfl) fun f cdv A outer s H E hr => ?_
  refine ⟨_, (pss_cons (ps_set (i := 2) sc_law_share.nd rfl (by first | exact Or.inl rfl | exact Or.inr rfl) (pcl c__law_common hr (by decide) rfl (pa_cons (pe_callB call_abs (by rfl) T.n_abs bt_abs (pa_cons (pv 0) pa_nil)) (pa_cons (pv 1) pa_nil))))
  (pss_one (ps_ret (pe_tup (pa_cons (pe_op opFd (pv 0) (pv 2)) (pa_cons (pe_op opFd (pv 1) (pv 2)) pa_nil)))))), fun ds d h => ?_⟩
  obtain ⟨t, b, rfl, hb, hl, rfl⟩ := h
  have fd : ∀ x : Int, CFd x (Nat.gcd t.natAbs b.toNat : Nat) := fun x => by
    have z := cmn_fd (t := t) (x := x) (show b ≠ 0 by omega) hl
    have e : cmn t b = (Nat.gcd t.natAbs b.toNat : Nat) := by
      unfold cmn
      rw [if_neg (by omega), show b.natAbs = b.toNat by omega]
    rw [e] at z
    exact z
  rw [mkS_posB hb]
  refine sd_seq (sd_set 2 (ed_call (ea_cons (ed_cb (ea_cons (ed_fz 0 rfl) ea_nil) rc_abs) (ea_cons (ed_fz 1 rfl) ea_nil)) ⟨t.natAbs, b.toNat, by rw [Int.toNat_of_nonneg (by omega)], rfl⟩)) ?_
  exact sd_ret (ed_tup (ea_cons (ed_op (ed_fz 0 rfl) (ed_fz 2 rfl) (r2_fd (fd _))) (ea_cons (ed_op (ed_fz 1 rfl) (ed_fz 2 rfl) (r2_fd (fd _))) ea_nil)))

theorem eqD_sh (p q : Int × Int) : eqD (sh p) (sh q) = decide (p = q) := by
  have e : eqD (sh p) (sh q) = (p.1 == q.1 && (p.2 == q.2 && true)) := by
    simp only [eqD, D.py, D.pyA, PyData.eqv, PyData.eqvAll]
  rw [e, Bool.eq_iff_iff]
  simp [Prod.ext_iff]
theorem pl_sh (p : Int × Int) : Pl 1 (sh p) := .tup fun d hd => by
  rcases List.mem_cons.mp hd with e | e
  · subst e; exact .int _
  · rcases List.mem_cons.mp e with e | e
    · subst e; exact .int _
    · cases e
def Sli : List D → D → Prop := fun ds d => ∃ p q : Int × Int, ds = [sh p, sh q] ∧ d = .bl (decide (p = q))
theorem ok_lis (T : Tx K mg a_WeighError a_Nought a_NoText a_NoRow a_NoMachine a_NoWord a_OtherSigns a_TooMany) (c__law_whole : Cl P w K mg base CX0 1 "_law_whole" (spR K Swh)) : Cl P w K mg base CX0 2 "_law_is" (spR K Sli) := by
  refine clR T.d__law_is sc_law_is (fun ds d h => by obtain ⟨a, b, rfl, _⟩ := h; rfl) fun f cdv A outer s H E hr => ?_
  refine ⟨_, (pss_cons (ps_if (PW.pt (pw_or (pt_not (pt_val (pe_callB call_isi (by rfl) T.n_isinstance bt_isinstance (pa_cons (pv 0) (pa_cons (pe_bltn (v := .ty "tuple") (by rfl) T.n_tuple bt_tuple rfl) pa_nil))))) (pw_or (pt_cmpR (op_neD hr.units) (pe_callB callLen (by rfl) T.n_len bt_len (pa_cons (pv 0) pa_nil)) pe_int (nomark _)) (pw_or (pt_not (pt_val (pcl c__law_whole hr (by decide) rfl (pa_cons (pe_ix ix_seq (pv 0) pe_int (fun _ _ => rfl)) pa_nil)))) (pw_or1 (pt_not (pt_val (pcl c__law_whole hr (by decide) rfl (pa_cons (pe_ix ix_seq (pv 0) pe_int (fun _ _ => rfl)) pa_nil)))))))))
  (pss_one (ps_ret pe_bl))
  pss_nil)
  (pss_one (ps_ret (pe_cmpR (op_eqD hr.units) (pv 0) (pv 1) (nomark _))))), fun ds d h => ?_⟩
  obtain ⟨p, q, rfl, rfl⟩ := h
  refine sd_seq (sd_ifF (et_orF (et_nF (et_B (ed_cb (ea_cons (ed_fz 0 rfl) (ea_cons (ed_ty _) ea_nil)) (rc_isi rfl (by decide +kernel))))) (et_orF (et_is (et_test (ed_op (ed_cb (ea_cons (ed_fz 0 rfl) ea_nil) rc_lenT) (ed_int 2) r2_neI)) rfl)
    (et_orF (et_nF (et_B (ed_call (ea_cons (ix0 (ed_fz 0 rfl)) ea_nil) ⟨_, _, rfl, rfl, rfl⟩))) (et_nF (et_B (ed_call (ea_cons (ix1 (ed_fz 0 rfl)) ea_nil) ⟨_, _, rfl, rfl, rfl⟩)))))) sd_next) ?_
  exact sd_ret (ed_is (ed_op (ed_fz 0 rfl) (ed_fz 1 rfl) (r2_eq (pl_sh p) (pl_sh q))) (by rw [eqD_sh]))

/-! ### k02 -/
theorem ok_told (T : Tx K mg a_WeighError a_Nought a_NoText a_NoRow a_NoMachine a_NoWord a_OtherSigns a_TooMany) (c_over : Cl P w K mg base (L2.CX P w) 3 "over" (spX K Sov (Tov a_Nought))) (c_word : ClE P w K mg base 1 "_law_word_of" a_Nought (.tup [.str "refused", .str "nought"])) :
    Cl P w K mg base CX0 4 "_law_over" (spR K fun ds d => ∃ p q, Two ds p q ∧ d = if q.1 = 0 then .tup [.str "refused", .str "nought"] else sh (overS p q)) := by
  have hW := W1_ok c_word
  have hWm := c_word.mx
  refine clR T.d__law_over sc_law_over (fun ds d h => by obtain ⟨p, q, h, _⟩ := h; exact two_len h) fun f cdv A outer s H E hr => ?_
  refine ⟨_, (pss_one (ps_try_as (i := 2) (Wout := fun _ _ _ _ => False) rfl rfl sc_law_over.nd rfl rfl ⟨rfl, by decide, .inl T.m_WeighError⟩ takes0 (fun W pn xe tk _ =>
  (pss_one (ps_ret (pclS c_over hr (by decide) rfl (fun σ => passAt tk σ) (pa_cons (pv 0) (pa_cons (pv 1) pa_nil))))))
  (fun a oe cls d pn hz hf => (pss_one (ps_ret (pe_callE hW hWm hr (by decide) hz hf rfl (pa_cons (pv 2) pa_nil))))))), fun ds d h => ?_⟩
  obtain ⟨p, q, h, rfl⟩ := h
  have h' := h
  obtain ⟨rfl, _⟩ := h'
  by_cases hb : q.1 = 0
  · rw [if_pos hb]
    exact sd_caught (Nat.le_of_ble_eq_true rfl) (fun W => sw_ret (xw_callS (ea_cons (ed_fz 0 rfl) (ea_cons (ed_fz 1 rfl) ea_nil)) ⟨p, q, h, hb, rfl⟩)) T.em_Nought W1_self
  · rw [if_neg hb]
    exact sd_calm fun W => sd_ret (ed_callS (ea_cons (ed_fz 0 rfl) (ea_cons (ed_fz 1 rfl) ea_nil)) ⟨p, q, h, hb, rfl⟩)
theorem mkS_neg (t b : Int) (hb : b < 0) : mkS (0 - t) (-b) = mkS t b := by
  have e : cmn (0 - t) (-b) = -(cmn t b) := by
    unfold cmn
    rw [if_neg (by omega), if_pos hb, show (0 - t).natAbs = t.natAbs by omega, Int.natAbs_neg]
    omega
  unfold mkS
  rw [e, show 0 - t = -t by omega, Int.neg_fdiv_neg, Int.neg_fdiv_neg]
def Squ : List D → D → Prop := fun ds d => ∃ p q, Two ds p q ∧ 0 < p.2 ∧ q.1 ≠ 0 ∧ d = sh (overS p q)
theorem ok_quo (T : Tx K mg a_WeighError a_Nought a_NoText a_NoRow a_NoMachine a_NoWord a_OtherSigns a_TooMany) (c__law_share : Cl P w K mg base CX0 2 "_law_share" (spR K Sls)) : Cl P w K mg base CX0 3 "_law_quotient" (spR K Squ) := by
  refine clR T.d__law_quotient sc_law_quotient (fun ds d h => by obtain ⟨p, q, h, _⟩ := h; exact two_len h) fun f cdv A outer s H E hr => ?_
  refine ⟨_, (pss_cons (ps_set (i := 2) sc_law_quotient.nd rfl (by first | exact Or.inl rfl | exact Or.inr rfl) (pe_op opMul (pe_ix ix_seq (pv 0) pe_int (fun _ _ => rfl)) (pe_ix ix_seq (pv 1) pe_int (fun _ _ => rfl))))
  (pss_cons (ps_if (pt_cmpR opLt (pe_ix ix_seq (pv 1) pe_int (fun _ _ => rfl)) pe_int (nomark _))
  (pss_one (ps_set (i := 2) sc_law_quotient.nd rfl (by first | exact Or.inl rfl | exact Or.inr rfl) (pe_op op_sub pe_int (pv 2))))
  pss_nil)
  (pss_one (ps_ret (pcl c__law_share hr (by decide) rfl (pa_cons (pv 2) (pa_cons (pe_op opMul (pe_ix ix_seq (pv 0) pe_int (fun _ _ => rfl)) (pe_callB call_abs (by rfl) T.n_abs bt_abs (pa_cons (pe_ix ix_seq (pv 1) pe_int (fun _ _ => rfl)) pa_nil))) pa_nil))))))), fun ds d h => ?_⟩
  obtain ⟨p, q, ⟨rfl, h1, h2, n, m, z1, z2, z⟩, hp, hq, rfl⟩ := h
  have b1 := mul_lt z1.2.2 z2.2.1
  refine sd_seq (Γ1 := [.fz (sh p), .fz (sh q), .fz (.int (p.1 * q.2))]) (sd_set 2 (ed_op (ix0 (ed_fz 0 rfl)) (ix1 (ed_fz 1 rfl)) (r2_mulI (big_of z1.2.1 z2.2.2 z1.1 z2.1 z)))) ?_
  suffices fin : ∀ t : Int, mkS t (p.2 * (q.1.natAbs : Int)) = overS p q → Sd K E0 _ [.fz (sh p), .fz (sh q), .fz (.int t)] (.rt (sh (overS p q))) by
    by_cases hn : q.1 < 0
    · refine sd_seq (sd_ifT (et_is (et_test (ed_op (ix0 (ed_fz 1 rfl)) (ed_int 0) r2_ltI)) (decide_eq_true hn)) (sd_set 2 (ed_op (ed_int 0) (ed_fz 2 rfl) r2_subI))) (fin (0 - p.1 * q.2) ?_)
      have e : p.2 * (q.1.natAbs : Int) = -(p.2 * q.1) := by
        rw [show (q.1.natAbs : Int) = -q.1 by omega, Int.mul_neg]
      rw [e]
      exact mkS_neg _ _ (Int.mul_neg_of_pos_of_neg hp hn)
    · refine sd_seq (sd_ifF (et_is (et_test (ed_op (ix0 (ed_fz 1 rfl)) (ed_int 0) r2_ltI)) (decide_eq_false hn)) sd_next) (fin (p.1 * q.2) ?_)
      rw [show (q.1.natAbs : Int) = q.1 by omega]
      rfl
  intro t e
  rw [← e]
  exact sd_ret (ed_call (ea_cons (ed_fz 2 rfl) (ea_cons (ed_op (ix1 (ed_fz 0 rfl)) (ed_cb (ea_cons (ix0 (ed_fz 1 rfl)) ea_nil) rc_abs) (r2_mulI (big_of z1.2.2 (by rw [Int.natAbs_natCast]; exact z2.2.1) z1.1 z2.1 z))) ea_nil))
    ⟨t, _, rfl, Int.mul_pos hp (by omega), by rw [Int.natAbs_mul, Int.natAbs_natCast, ← Int.natAbs_mul]; exact log_lim b1 (by have := z1.1; omega) z, rfl⟩)
theorem ok_law {f : Addr} {fd : FuncData} (T : Tx K mg a_WeighError a_Nought a_NoText a_NoRow a_NoMachine a_NoWord a_OtherSigns a_TooMany) (F : Fun K "law" "law" s_law f fd) : FnOk P w K mg base CX0 9 f fd ["_law_script"] (spLaw K) := by
  have c_divisor := ok_divisor (P := P) (w := w) (base := base) T
  have c_share := ok_share (P := P) (w := w) (base := base) T c_divisor
  have c_plus := ok_plus T c_share
  have c_less := ok_less T c_share
  have c_times := ok_times T c_share
  have c__law_over := ok_told T (ok_over T c_share) (ok_word_Nought T)
  have c__law_cell_at := ok_cell_at (P := P) (w := w) (base := base) T
  have c__law_number := ok_number (P := P) (w := w) (base := base) T
  have c__law_whole := ok__law_whole (P := P) (w := w) (base := base) T
  have c__law_is := ok_lis T c__law_whole
  have c__law_common := ok_common (P := P) (w := w) (base := base) T
  have c__law_share := ok_lshare T c__law_common
  have c__law_quotient := ok_quo T c__law_share
  refine fnLaw F sc_law rfl fun cdv A outer s H E hr => ?_
  refine ⟨_, (pss_cons (ps_setLc (i := 1) rfl sc_law.nd rfl rfl (sw_true rfl rfl rfl (by decide +kernel)) (own := [("_law_k", 5)]) (pi_range1 rfl T.n_range (pa_cons pe_int pa_nil)) (blkOk_by (by kernel_rfl)) (fun _ _ _ _ _ => (pg_name (i := 5) sc_law.nd rfl (by first | exact Or.inl rfl | exact Or.inr rfl))) (fun _ _ _ _ _ => pts_nil) (fun _ _ _ _ _ => (pcl c__law_cell_at hr (by decide) rfl (pa_cons (pv 0) (pa_cons (pv 5) pa_nil)))))
  (pss_cons (ps_set (i := 2) sc_law.nd rfl (by first | exact Or.inl rfl | exact Or.inr rfl) (pcl c__law_share hr (by decide) rfl (pa_cons (pcl c__law_number hr (by decide) rfl (pa_cons (pe_ix ix_seq (pv 1) pe_int (fun _ _ => rfl)) pa_nil)) (pa_cons (pe_callB (call_max2 rfl) (by rfl) T.n_max bt_max (pa_cons pe_int (pa_cons (pe_callB call_abs (by rfl) T.n_abs bt_abs (pa_cons (pcl c__law_number hr (by decide) rfl (pa_cons (pe_ix ix_seq (pv 1) pe_int (fun _ _ => rfl)) pa_nil)) pa_nil)) pa_nil))) pa_nil))))
  (pss_cons (ps_set (i := 3) sc_law.nd rfl (by first | exact Or.inl rfl | exact Or.inr rfl) (pcl c__law_share hr (by decide) rfl (pa_cons (pcl c__law_number hr (by decide) rfl (pa_cons (pe_ix ix_seq (pv 1) pe_int (fun _ _ => rfl)) pa_nil)) (pa_cons (pe_callB (call_max2 rfl) (by rfl) T.n_max bt_max (pa_cons pe_int (pa_cons (pe_callB call_abs (by rfl) T.n_abs bt_abs (pa_cons (pcl c__law_number hr (by decide) rfl (pa_cons (pe_ix ix_seq (pv 1) pe_int (fun _ _ => rfl)) pa_nil)) pa_nil)) pa_nil))) pa_nil))))
  (pss_cons (ps_if (pt_cmpR (op_eqD hr.units) (pe_op op_mod (pe_ix ix_seq (pv 1) pe_int (fun _ _ => rfl)) pe_int) pe_int (nomark _))
  (pss_one (ps_set (i := 3) sc_law.nd rfl (by first | exact Or.inl rfl | exact Or.inr rfl) (pe_ix ix_seq (pe_lst (pa_cons (pv 2) (pa_cons (pe_tup (pa_cons (pe_op op_sub pe_int (pe_ix ix_seq (pv 2) pe_int (fun _ _ => rfl))) (pa_cons (pe_ix ix_seq (pv 2) pe_int (fun _ _ => rfl)) pa_nil))) pa_nil))) (pe_op op_mod (pe_op opFd (pe_ix ix_seq (pv 1) pe_int (fun _ _ => rfl)) pe_int) pe_int) (fun _ _ => rfl))))
  pss_nil)
  (pss_cons (ps_set (i := 4) sc_law.nd rfl (by first | exact Or.inl rfl | exact Or.inr rfl) (pe_op opMul (pe_ix ix_seq (pv 2) pe_int (fun _ _ => rfl)) (pe_ix ix_seq (pv 3) pe_int (fun _ _ => rfl))))
  (pss_cons (ps_if (pt_not (pt_val (pcl c__law_is hr (by decide) rfl (pa_cons (pcl c_plus hr (by decide) rfl (pa_cons (pv 2) (pa_cons (pv 3) pa_nil))) (pa_cons (pcl c__law_share hr (by decide) rfl (pa_cons (pe_op opAdd (pe_op opMul (pe_ix ix_seq (pv 2) pe_int (fun _ _ => rfl)) (pe_ix ix_seq (pv 3) pe_int (fun _ _ => rfl))) (pe_op opMul (pe_ix ix_seq (pv 3) pe_int (fun _ _ => rfl)) (pe_ix ix_seq (pv 2) pe_int (fun _ _ => rfl)))) (pa_cons (pv 4) pa_nil))) pa_nil)))))
  (pss_one (ps_ret pe_bl))
  pss_nil)
  (pss_cons (ps_if (pt_not (pt_val (pcl c__law_is hr (by decide) rfl (pa_cons (pcl c_less hr (by decide) rfl (pa_cons (pv 2) (pa_cons (pv 3) pa_nil))) (pa_cons (pcl c__law_share hr (by decide) rfl (pa_cons (pe_op op_sub (pe_op opMul (pe_ix ix_seq (pv 2) pe_int (fun _ _ => rfl)) (pe_ix ix_seq (pv 3) pe_int (fun _ _ => rfl))) (pe_op opMul (pe_ix ix_seq (pv 3) pe_int (fun _ _ => rfl)) (pe_ix ix_seq (pv 2) pe_int (fun _ _ => rfl)))) (pa_cons (pv 4) pa_nil))) pa_nil)))))
  (pss_one (ps_ret pe_bl))
  pss_nil)
  (pss_cons (ps_if (pt_not (pt_val (pcl c__law_is hr (by decide) rfl (pa_cons (pcl c_times hr (by decide) rfl (pa_cons (pv 2) (pa_cons (pv 3) pa_nil))) (pa_cons (pcl c__law_share hr (by decide) rfl (pa_cons (pe_op opMul (pe_ix ix_seq (pv 2) pe_int (fun _ _ => rfl)) (pe_ix ix_seq (pv 3) pe_int (fun _ _ => rfl))) (pa_cons (pv 4) pa_nil))) pa_nil)))))
  (pss_one (ps_ret pe_bl))
  pss_nil)
  (pss_cons (ps_if (pt_cmpR (op_eqD hr.units) (pe_ix ix_seq (pv 3) pe_int (fun _ _ => rfl)) pe_int (nomark _))
  (pss_one (ps_ret (pe_cmpR (op_eqD hr.units) (pcl c__law_over hr (by decide) rfl (pa_cons (pv 2) (pa_cons (pv 3) pa_nil))) (pe_tup (pa_cons pe_str (pa_cons pe_str pa_nil))) (nomark _))))
  pss_nil)
  (pss_one (ps_ret (pcl c__law_is hr (by decide) rfl (pa_cons (pcl c__law_over hr (by decide) rfl (pa_cons (pv 2) (pa_cons (pv 3) pa_nil))) (pa_cons (pcl c__law_quotient hr (by decide) rfl (pa_cons (pv 2) (pa_cons (pv 3) pa_nil))) pa_nil)))))))))))))), fun ns hl hb => ?_⟩
  let L : List D := (List.range 5).map fun i => .int (cellAt ns i)
  refine sd_seq (Γ1 := [.fz (.scr ns), .fz (.lst L), .no, .no, .no, .no]) (sd_set 1 (ed_map (List.range 5) (fun i => .int (0 + (i : Nat))) (fun i => .int (cellAt ns i)) (ei_rng1 (n := 5) (ea_cons (ed_int 5) ea_nil) (by decide)) (by decide) fun i hi => ⟨[5], _, eg_name 5, by simp, ed_call (ea_cons (ed_fz 0 rfl) (ea_cons (ed_is (ed_fz 5 rfl) (by rw [Int.zero_add])) ea_nil)) ⟨ns, i, rfl, rfl⟩⟩)) ?_
  have cell : ∀ {Γ : Gam} (k : Nat), k < 5 → Γ[1]? = some (.fz (.lst L)) → Ed K (tOp (rIx K) (tVar 1) (tC (.int k))) Γ (.int (cellAt ns k)) := fun {Γ} k hk h => ed_op (ed_fz 1 h) (ed_int _) (r2_ixL (by
    rw [atI_nat' (xs := L) hk]
    exact congrArg some ((List.getElem_map _).trans (by rw [List.getElem_range]))))
  have numb : ∀ {Γ : Gam} (k : Nat), k < 5 → Γ[1]? = some (.fz (.lst L)) → Ed K (tCall (spR K Snu) [] E0 (tCons (tOp (rIx K) (tVar 1) (tC (.int k))) tNil)) Γ (.int (num (cellAt ns k))) := fun {Γ} k hk h => ed_call (ea_cons (cell k hk h) ea_nil) ⟨_, rfl, sm_at hb k, rfl⟩
  have den : ∀ x : Int, x.natAbs < 2 ^ 200 → 0 < max 1 (x.natAbs : Int) ∧ (max 1 (x.natAbs : Int)).natAbs < 2 ^ 200 := fun x hx => by
    constructor
    · omega
    · have : (max 1 (x.natAbs : Int)).natAbs = max 1 x.natAbs := by omega
      rw [this]
      exact Nat.max_lt.mpr ⟨by decide, hx⟩
  have shareAt : ∀ (Γ : Gam) (j k : Nat), j < 5 → k < 5 → Γ[1]? = some (.fz (.lst L)) → ∃ p : Int × Int, Sz 200 p ∧ 0 < p.2 ∧
      Ed K (tCall (spR K Sls) [] E0 (tCons (tCall (spR K Snu) [] E0 (tCons (tOp (rIx K) (tVar 1) (tC (.int j))) tNil)) (tCons (tCB _ (tCons (tC (.int 1)) (tCons (tCB _ (tCons (tCall (spR K Snu) [] E0 (tCons (tOp (rIx K) (tVar 1) (tC (.int k))) tNil)) tNil)) tNil))) tNil))) Γ (sh p) := fun Γ j k hj hk h => by
    obtain ⟨d1, d2⟩ := den _ (num_lt (cellAt ns k))
    have ne : max 1 ((num (cellAt ns k)).natAbs : Int) ≠ 0 := by omega
    obtain ⟨l1, l2⟩ := mkS_le (t := num (cellAt ns j)) ne
    refine ⟨mkS (num (cellAt ns j)) (max 1 ((num (cellAt ns k)).natAbs : Int)), ⟨by decide, Nat.lt_of_le_of_lt l1 (num_lt _), Nat.lt_of_le_of_lt l2 d2⟩, mkS_pos ne, ?_⟩
    exact ed_call (ea_cons (numb j hj h) (ea_cons (ed_cb (ea_cons (ed_int 1) (ea_cons (ed_cb (ea_cons (numb k hk h) ea_nil) rc_abs) ea_nil)) rc_max2) ea_nil)) ⟨_, _, rfl, d1, log_lim d2 (by decide) (by decide), rfl⟩
  obtain ⟨p, zp, pp, ep⟩ := shareAt [.fz (.scr ns), .fz (.lst L), .no, .no, .no, .no] 0 1 (by decide) (by decide) rfl
  refine sd_seq (Γ1 := [.fz (.scr ns), .fz (.lst L), .fz (sh p), .no, .no, .no]) (sd_set 2 ep) ?_
  obtain ⟨q0, zq0, pq0, eq0⟩ := shareAt [.fz (.scr ns), .fz (.lst L), .fz (sh p), .no, .no, .no] 2 3 (by decide) (by decide) rfl
  refine sd_seq (Γ1 := [.fz (.scr ns), .fz (.lst L), .fz (sh p), .fz (sh q0), .no, .no]) (sd_set 3 eq0) ?_
  -- the other one
  suffices main : ∀ q : Int × Int, Sz 200 q → 0 < q.2 → Sd K E0 _ [.fz (.scr ns), .fz (.lst L), .fz (sh p), .fz (sh q), .no, .no] (.rt (.bl true)) by
    by_cases h6 : cellAt ns 4 % 6 = 1
    · have z2 : cellAt ns 4 / 6 % 2 = 0 ∨ cellAt ns 4 / 6 % 2 = 1 := by omega
      have ix : ∀ {Γ : Gam}, Γ[1]? = some (.fz (.lst L)) → Ed K (tOp _ (tOp rFdA (tOp (rIx K) (tVar 1) (tC (.int 4))) (tC (.int 6))) (tC (.int 2))) Γ (.int (cellAt ns 4 / 6 % 2)) := fun {Γ} h => ed_op (ed_op (cell 4 (by decide) h) (ed_int 6) (r2_fdP (by decide))) (ed_int 2) (r2_mod (by decide))
      have pick : ∃ q : Int × Int, Sz 200 q ∧ 0 < q.2 ∧ atI [sh p, sh (0 - p.1, p.2)] (cellAt ns 4 / 6 % 2) = some (sh q) := by
        rcases z2 with e | e
        · rw [e]; exact ⟨p, zp, pp, rfl⟩
        · rw [e]; exact ⟨(0 - p.1, p.2), ⟨zp.1, by show (0 - p.1).natAbs < _; rw [show (0 - p.1).natAbs = p.1.natAbs by omega]; exact zp.2.1, zp.2.2⟩, pp, rfl⟩
      obtain ⟨q, zq, pq, eq⟩ := pick
      refine sd_seq (Γ1 := [.fz (.scr ns), .fz (.lst L), .fz (sh p), .fz (sh q), .no, .no]) (sd_ifT (et_is (et_test (ed_op (ed_op (cell 4 (by decide) rfl) (ed_int 6) (r2_mod (by decide))) (ed_int 1) r2_eqI)) (decide_eq_true h6)) (sd_set 3 (ed_op (ed_lst (ea_cons (ed_fz 2 rfl) (ea_cons (ed_tup (ea_cons (ed_op (ed_int 0) (ix0 (ed_fz 2 rfl)) r2_subI) (ea_cons (ix1 (ed_fz 2 rfl)) ea_nil))) ea_nil))) (ix rfl) (r2_ixL eq)))) (main q zq pq)
    · exact sd_seq (sd_ifF (et_is (et_test (ed_op (ed_op (cell 4 (by decide) rfl) (ed_int 6) (r2_mod (by decide))) (ed_int 1) r2_eqI)) (decide_eq_false h6)) sd_next) (main q0 zq0 pq0)
  intro q zq pq
  have two : Two [sh p, sh q] p q := ⟨rfl, by omega, by omega, 200, 200, zp, zq, by decide⟩
  have bg : ∀ {x y : Int}, x.natAbs < 2 ^ 200 → y.natAbs < 2 ^ 200 → CBig x y := fun hx hy => big_of hx hy (by decide) (by decide) (by decide)
  have dpos : 0 < p.2 * q.2 := Int.mul_pos pp pq
  have dlog : (p.2 * q.2).natAbs.log2 < 9000 := log_lim (mul_lt zp.2.2 zq.2.2) (by decide) (by decide)
  refine sd_seq (Γ1 := [.fz (.scr ns), .fz (.lst L), .fz (sh p), .fz (sh q), .fz (.int (p.2 * q.2)), .no]) (sd_set 4 (ed_op (ix1 (ed_fz 2 rfl)) (ix1 (ed_fz 3 rfl)) (r2_mulI (bg zp.2.2 zq.2.2)))) ?_
  refine sd_seq (sd_ifF (et_nF (et_B (ed_is (ed_call (ea_cons (ed_call (ea_cons (ed_fz 2 rfl) (ea_cons (ed_fz 3 rfl) ea_nil)) ⟨p, q, two, rfl⟩) (ea_cons (ed_call (ea_cons (ed_op (ed_op (ix0 (ed_fz 2 rfl)) (ix1 (ed_fz 3 rfl)) (r2_mulI (bg zp.2.1 zq.2.2))) (ed_op (ix0 (ed_fz 3 rfl)) (ix1 (ed_fz 2 rfl)) (r2_mulI (bg zq.2.1 zp.2.2))) r2_addI) (ea_cons (ed_fz 4 rfl) ea_nil)) ⟨_, _, rfl, dpos, dlog, rfl⟩) ea_nil)) ⟨_, _, rfl, rfl⟩) (congrArg D.bl (decide_eq_true rfl))))) sd_next) ?_
  refine sd_seq (sd_ifF (et_nF (et_B (ed_is (ed_call (ea_cons (ed_call (ea_cons (ed_fz 2 rfl) (ea_cons (ed_fz 3 rfl) ea_nil)) ⟨p, q, two, rfl⟩) (ea_cons (ed_call (ea_cons (ed_op (ed_op (ix0 (ed_fz 2 rfl)) (ix1 (ed_fz 3 rfl)) (r2_mulI (bg zp.2.1 zq.2.2))) (ed_op (ix0 (ed_fz 3 rfl)) (ix1 (ed_fz 2 rfl)) (r2_mulI (bg zq.2.1 zp.2.2))) r2_subI) (ea_cons (ed_fz 4 rfl) ea_nil)) ⟨_, _, rfl, dpos, dlog, rfl⟩) ea_nil)) ⟨_, _, rfl, rfl⟩) (congrArg D.bl (decide_eq_true rfl))))) sd_next) ?_
  refine sd_seq (sd_ifF (et_nF (et_B (ed_is (ed_call (ea_cons (ed_call (ea_cons (ed_fz 2 rfl) (ea_cons (ed_fz 3 rfl) ea_nil)) ⟨p, q, two, rfl⟩) (ea_cons (ed_call (ea_cons (ed_op (ix0 (ed_fz 2 rfl)) (ix0 (ed_fz 3 rfl)) (r2_mulI (bg zp.2.1 zq.2.1))) (ea_cons (ed_fz 4 rfl) ea_nil)) ⟨_, _, rfl, dpos, dlog, rfl⟩) ea_nil)) ⟨_, _, rfl, rfl⟩) (congrArg D.bl (decide_eq_true rfl))))) sd_next) ?_
  by_cases h0 : q.1 = 0
  · refine sd_stop (sd_ifT (et_is (et_test (ed_op (ix0 (ed_fz 3 rfl)) (ed_int 0) r2_eqI)) (decide_eq_true h0)) (sd_ret ?_)) rfl
    have pl : Pl 1 (.tup [.str "refused", .str "nought"]) := .tup fun d hd => by
      rcases List.mem_cons.mp hd with e | e
      · subst e; exact .str (by decide +kernel)
      · rcases List.mem_cons.mp e with e | e
        · subst e; exact .str (by decide +kernel)
        · cases e
    have e1 : eqD (.tup [.str "refused", .str "nought"]) (.tup [.str "refused", .str "nought"]) = true := by decide +kernel
    exact ed_is (ed_op (ed_is (ed_call (ea_cons (ed_fz 2 rfl) (ea_cons (ed_fz 3 rfl) ea_nil)) ⟨p, q, two, rfl⟩) (if_pos h0)) (ed_tup (ea_cons (ed_str _) (ea_cons (ed_str _) ea_nil))) (r2_eq pl pl)) (by rw [e1])
  · refine sd_seq (sd_ifF (et_is (et_test (ed_op (ix0 (ed_fz 3 rfl)) (ed_int 0) r2_eqI)) (decide_eq_false h0)) sd_next) (sd_ret ?_)
    exact ed_is (ed_call (ea_cons (ed_is (ed_call (ea_cons (ed_fz 2 rfl) (ea_cons (ed_fz 3 rfl) ea_nil)) ⟨p, q, two, rfl⟩) (if_neg h0)) (ea_cons (ed_call (ea_cons (ed_fz 2 rfl) (ea_cons (ed_fz 3 rfl) ea_nil)) ⟨p, q, two, pp, h0, rfl⟩) ea_nil)) ⟨_, _, rfl, rfl⟩) (congrArg D.bl (decide_eq_true rfl))

end

theorem all_mk {l : PySem.W.OpenLaw} {w : World} {K : PySem.W.Frag} {h : Heap} {mg : Str → Option Value} {fa : Addr} (X : K.In h) (G : h.Ns mainGlobals mg) (hfa : mg "law" = some (.ref fa))
    {a_WeighError a_Nought a_NoText a_NoRow a_NoMachine a_NoWord a_OtherSigns a_TooMany : Addr}
    {fa_divisor : Addr} {od_divisor an_divisor : Option Addr} {sl_divisor : Array (Option Value)} {oc_divisor kV_divisor dc_divisor pm_divisor cd_divisor ct_divisor : Value}
    {fa_share : Addr} {od_share an_share : Option Addr} {sl_share : Array (Option Value)} {oc_share kV_share dc_share pm_share cd_share ct_share : Value}
    {fa_plus : Addr} {od_plus an_plus : Option Addr} {sl_plus : Array (Option Value)} {oc_plus kV_plus dc_plus pm_plus cd_plus ct_plus : Value}
    {fa_less : Addr} {od_less an_less : Option Addr} {sl_less : Array (Option Value)} {oc_less kV_less dc_less pm_less cd_less ct_less : Value}
    {fa_times : Addr} {od_times an_times : Option Addr} {sl_times : Array (Option Value)} {oc_times kV_times dc_times pm_times cd_times ct_times : Value}
    {fa_over : Addr} {od_over an_over : Option Addr} {sl_over : Array (Option Value)} {oc_over kV_over dc_over pm_over cd_over ct_over : Value}
    {fa_law_cell_at : Addr} {od_law_cell_at an_law_cell_at : Option Addr} {sl_law_cell_at : Array (Option Value)} {oc_law_cell_at kV_law_cell_at dc_law_cell_at pm_law_cell_at cd_law_cell_at ct_law_cell_at : Value}
    {fa_law_whole : Addr} {od_law_whole an_law_whole : Option Addr} {sl_law_whole : Array (Option Value)} {oc_law_whole kV_law_whole dc_law_whole pm_law_whole cd_law_whole ct_law_whole : Value}
    {fa_law_common : Addr} {od_law_common an_law_common : Option Addr} {sl_law_common : Array (Option Value)} {oc_law_common kV_law_common dc_law_common pm_law_common cd_law_common ct_law_common : Value}
    {fa_law_share : Addr} {od_law_share an_law_share : Option Addr} {sl_law_share : Array (Option Value)} {oc_law_share kV_law_share dc_law_share pm_law_share cd_law_share ct_law_share : Value}
    {fa_law_is : Addr} {od_law_is an_law_is : Option Addr} {sl_law_is : Array (Option Value)} {oc_law_is kV_law_is dc_law_is pm_law_is cd_law_is ct_law_is : Value}
    {fa_law_number : Addr} {od_law_number an_law_number : Option Addr} {sl_law_number : Array (Option Value)} {oc_law_number kV_law_number dc_law_number pm_law_number cd_law_number ct_law_number : Value}
    {fa_law_word_of : Addr} {od_law_word_of an_law_word_of : Option Addr} {sl_law_word_of : Array (Option Value)} {oc_law_word_of kV_law_word_of dc_law_word_of pm_law_word_of cd_law_word_of ct_law_word_of : Value}
    {fa_law_over : Addr} {od_law_over an_law_over : Option Addr} {sl_law_over : Array (Option Value)} {oc_law_over kV_law_over dc_law_over pm_law_over cd_law_over ct_law_over : Value}
    {fa_law_quotient : Addr} {od_law_quotient an_law_quotient : Option Addr} {sl_law_quotient : Array (Option Value)} {oc_law_quotient kV_law_quotient dc_law_quotient pm_law_quotient cd_law_quotient ct_law_quotient : Value}
    {fa_law : Addr} {od_law an_law : Option Addr} {sl_law : Array (Option Value)} {oc_law kV_law dc_law pm_law cd_law ct_law : Value}
    (h1_divisor : PySem.W.nsIn K mainGlobals "divisor" = some (some (.ref fa_divisor)))
    (h2_divisor : K.lookup fa_divisor = some ⟨oc_divisor, od_divisor, .func (PySem.W.fnOf "divisor" "divisor" (defArgs s_divisor) (defBody s_divisor) (defScope s_divisor) .none kV_divisor dc_divisor pm_divisor an_divisor cd_divisor ct_divisor), sl_divisor⟩)
    (h3_divisor : PySem.W.codeIn K cd_divisor "divisor" = true)
    (h4_divisor : PySem.W.keepIn K (.ref fa_divisor) = true)
    (h1_share : PySem.W.nsIn K mainGlobals "share" = some (some (.ref fa_share)))
    (h2_share : K.lookup fa_share = some ⟨oc_share, od_share, .func (PySem.W.fnOf "share" "share" (defArgs s_share) (defBody s_share) (defScope s_share) .none kV_share dc_share pm_share an_share cd_share ct_share), sl_share⟩)
    (h3_share : PySem.W.codeIn K cd_share "share" = true)
    (h4_share : PySem.W.keepIn K (.ref fa_share) = true)
    (h1_plus : PySem.W.nsIn K mainGlobals "plus" = some (some (.ref fa_plus)))
    (h2_plus : K.lookup fa_plus = some ⟨oc_plus, od_plus, .func (PySem.W.fnOf "plus" "plus" (defArgs s_plus) (defBody s_plus) (defScope s_plus) .none kV_plus dc_plus pm_plus an_plus cd_plus ct_plus), sl_plus⟩)
    (h3_plus : PySem.W.codeIn K cd_plus "plus" = true)
    (h4_plus : PySem.W.keepIn K (.ref fa_plus) = true)
    (h1_less : PySem.W.nsIn K mainGlobals "less" = some (some (.ref fa_less)))
    (h2_less : K.lookup fa_less = some ⟨oc_less, od_less, .func (PySem.W.fnOf "less" "less" (defArgs s_less) (defBody s_less) (defScope s_less) .none kV_less dc_less pm_less an_less cd_less ct_less), sl_less⟩)
    (h3_less : PySem.W.codeIn K cd_less "less" = true)
    (h4_less : PySem.W.keepIn K (.ref fa_less) = true)
    (h1_times : PySem.W.nsIn K mainGlobals "times" = some (some (.ref fa_times)))
    (h2_times : K.lookup fa_times = some ⟨oc_times, od_times, .func (PySem.W.fnOf "times" "times" (defArgs s_times) (defBody s_times) (defScope s_times) .none kV_times dc_times pm_times an_times cd_times ct_times), sl_times⟩)
    (h3_times : PySem.W.codeIn K cd_times "times" = true)
    (h4_times : PySem.W.keepIn K (.ref fa_times) = true)
    (h1_over : PySem.W.nsIn K mainGlobals "over" = some (some (.ref fa_over)))
    (h2_over : K.lookup fa_over = some ⟨oc_over, od_over, .func (PySem.W.fnOf "over" "over" (defArgs s_over) (defBody s_over) (defScope s_over) .none kV_over dc_over pm_over an_over cd_over ct_over), sl_over⟩)
    (h3_over : PySem.W.codeIn K cd_over "over" = true)
    (h4_over : PySem.W.keepIn K (.ref fa_over) = true)
    (h1_law_cell_at : PySem.W.nsIn K mainGlobals "_law_cell_at" = some (some (.ref fa_law_cell_at)))
    (h2_law_cell_at : K.lookup fa_law_cell_at = some ⟨oc_law_cell_at, od_law_cell_at, .func (PySem.W.fnOf "_law_cell_at" "_law_cell_at" (defArgs s_law_cell_at) (defBody s_law_cell_at) (defScope s_law_cell_at) .none kV_law_cell_at dc_law_cell_at pm_law_cell_at an_law_cell_at cd_law_cell_at ct_law_cell_at), sl_law_cell_at⟩)
    (h3_law_cell_at : PySem.W.codeIn K cd_law_cell_at "_law_cell_at" = true)
    (h4_law_cell_at : PySem.W.keepIn K (.ref fa_law_cell_at) = true)
    (h1_law_whole : PySem.W.nsIn K mainGlobals "_law_whole" = some (some (.ref fa_law_whole)))
    (h2_law_whole : K.lookup fa_law_whole = some ⟨oc_law_whole, od_law_whole, .func (PySem.W.fnOf "_law_whole" "_law_whole" (defArgs s_law_whole) (defBody s_law_whole) (defScope s_law_whole) .none kV_law_whole dc_law_whole pm_law_whole an_law_whole cd_law_whole ct_law_whole), sl_law_whole⟩)
    (h3_law_whole : PySem.W.codeIn K cd_law_whole "_law_whole" = true)
    (h4_law_whole : PySem.W.keepIn K (.ref fa_law_whole) = true)
    (h1_law_common : PySem.W.nsIn K mainGlobals "_law_common" = some (some (.ref fa_law_common)))
    (h2_law_common : K.lookup fa_law_common = some ⟨oc_law_common, od_law_common, .func (PySem.W.fnOf "_law_common" "_law_common" (defArgs s_law_common) (defBody s_law_common) (defScope s_law_common) .none kV_law_common dc_law_common pm_law_common an_law_common cd_law_common ct_law_common), sl_law_common⟩)
    (h3_law_common : PySem.W.codeIn K cd_law_common "_law_common" = true)
    (h4_law_common : PySem.W.keepIn K (.ref fa_law_common) = true)
    (h1_law_share : PySem.W.nsIn K mainGlobals "_law_share" = some (some (.ref fa_law_share)))
    (h2_law_share : K.lookup fa_law_share = some ⟨oc_law_share, od_law_share, .func (PySem.W.fnOf "_law_share" "_law_share" (defArgs s_law_share) (defBody s_law_share) (defScope s_law_share) .none kV_law_share dc_law_share pm_law_share an_law_share cd_law_share ct_law_share), sl_law_share⟩)
    (h3_law_share : PySem.W.codeIn K cd_law_share "_law_share" = true)
    (h4_law_share : PySem.W.keepIn K (.ref fa_law_share) = true)
    (h1_law_is : PySem.W.nsIn K mainGlobals "_law_is" = some (some (.ref fa_law_is)))
    (h2_law_is : K.lookup fa_law_is = some ⟨oc_law_is, od_law_is, .func (PySem.W.fnOf "_law_is" "_law_is" (defArgs s_law_is) (defBody s_law_is) (defScope s_law_is) .none kV_law_is dc_law_is pm_law_is an_law_is cd_law_is ct_law_is), sl_law_is⟩)
    (h3_law_is : PySem.W.codeIn K cd_law_is "_law_is" = true)
    (h4_law_is : PySem.W.keepIn K (.ref fa_law_is) = true)
    (h1_law_number : PySem.W.nsIn K mainGlobals "_law_number" = some (some (.ref fa_law_number)))
    (h2_law_number : K.lookup fa_law_number = some ⟨oc_law_number, od_law_number, .func (PySem.W.fnOf "_law_number" "_law_number" (defArgs s_law_number) (defBody s_law_number) (defScope s_law_number) .none kV_law_number dc_law_number pm_law_number an_law_number cd_law_number ct_law_number), sl_law_number⟩)
    (h3_law_number : PySem.W.codeIn K cd_law_number "_law_number" = true)
    (h4_law_number : PySem.W.keepIn K (.ref fa_law_number) = true)
    (h1_law_word_of : PySem.W.nsIn K mainGlobals "_law_word_of" = some (some (.ref fa_law_word_of)))
    (h2_law_word_of : K.lookup fa_law_word_of = some ⟨oc_law_word_of, od_law_word_of, .func (PySem.W.fnOf "_law_word_of" "_law_word_of" (defArgs s_law_word_of) (defBody s_law_word_of) (defScope s_law_word_of) .none kV_law_word_of dc_law_word_of pm_law_word_of an_law_word_of cd_law_word_of ct_law_word_of), sl_law_word_of⟩)
    (h3_law_word_of : PySem.W.codeIn K cd_law_word_of "_law_word_of" = true)
    (h4_law_word_of : PySem.W.keepIn K (.ref fa_law_word_of) = true)
    (h1_law_over : PySem.W.nsIn K mainGlobals "_law_over" = some (some (.ref fa_law_over)))
    (h2_law_over : K.lookup fa_law_over = some ⟨oc_law_over, od_law_over, .func (PySem.W.fnOf "_law_over" "_law_over" (defArgs s_law_over) (defBody s_law_over) (defScope s_law_over) .none kV_law_over dc_law_over pm_law_over an_law_over cd_law_over ct_law_over), sl_law_over⟩)
    (h3_law_over : PySem.W.codeIn K cd_law_over "_law_over" = true)
    (h4_law_over : PySem.W.keepIn K (.ref fa_law_over) = true)
    (h1_law_quotient : PySem.W.nsIn K mainGlobals "_law_quotient" = some (some (.ref fa_law_quotient)))
    (h2_law_quotient : K.lookup fa_law_quotient = some ⟨oc_law_quotient, od_law_quotient, .func (PySem.W.fnOf "_law_quotient" "_law_quotient" (defArgs s_law_quotient) (defBody s_law_quotient) (defScope s_law_quotient) .none kV_law_quotient dc_law_quotient pm_law_quotient an_law_quotient cd_law_quotient ct_law_quotient), sl_law_quotient⟩)
    (h3_law_quotient : PySem.W.codeIn K cd_law_quotient "_law_quotient" = true)
    (h4_law_quotient : PySem.W.keepIn K (.ref fa_law_quotient) = true)
    (h1_law : PySem.W.nsIn K mainGlobals "law" = some (some (.ref fa_law)))
    (h2_law : K.lookup fa_law = some ⟨oc_law, od_law, .func (PySem.W.fnOf "law" "law" (defArgs s_law) (defBody s_law) (defScope s_law) .none kV_law dc_law pm_law an_law cd_law ct_law), sl_law⟩)
    (h3_law : PySem.W.codeIn K cd_law "law" = true)
    (h4_law : PySem.W.keepIn K (.ref fa_law) = true)
    (n_abs : PySem.W.nsIn K mainGlobals "abs" = some none)
    (n_len : PySem.W.nsIn K mainGlobals "len" = some none)
    (n_isinstance : PySem.W.nsIn K mainGlobals "isinstance" = some none)
    (n_int : PySem.W.nsIn K mainGlobals "int" = some none)
    (n_bool : PySem.W.nsIn K mainGlobals "bool" = some none)
    (n_tuple : PySem.W.nsIn K mainGlobals "tuple" = some none)
    (n_ValueError : PySem.W.nsIn K mainGlobals "ValueError" = some none)
    (n_max : PySem.W.nsIn K mainGlobals "max" = some none)
    (n_range : PySem.W.nsIn K mainGlobals "range" = some none)
    (m_WeighError : PySem.W.nsIn K mainGlobals "WeighError" = some (some (.ref a_WeighError)))
    (m_Nought : PySem.W.nsIn K mainGlobals "Nought" = some (some (.ref a_Nought)))
    (m_NoText : PySem.W.nsIn K mainGlobals "NoText" = some (some (.ref a_NoText)))
    (m_NoRow : PySem.W.nsIn K mainGlobals "NoRow" = some (some (.ref a_NoRow)))
    (m_NoMachine : PySem.W.nsIn K mainGlobals "NoMachine" = some (some (.ref a_NoMachine)))
    (m_NoWord : PySem.W.nsIn K mainGlobals "NoWord" = some (some (.ref a_NoWord)))
    (m_OtherSigns : PySem.W.nsIn K mainGlobals "OtherSigns" = some (some (.ref a_OtherSigns)))
    (m_TooMany : PySem.W.nsIn K mainGlobals "TooMany" = some (some (.ref a_TooMany)))
    (x_WeighError : PySem.W.excIn K a_WeighError [.type "ValueError", .type "Exception", .type "BaseException", .type "object"] "ValueError.__new__" = true)
    (k_WeighError : PySem.W.keepIn K (.ref a_WeighError) = true)
    (b_WeighError : PySem.W.subIn K (.ref a_WeighError) (.type "BaseException") = some true)
    (t_WeighError : PySem.W.typeIn K (.ref a_WeighError) = some (.type "type"))
    (x_Nought : PySem.W.excIn K a_Nought [.type "ValueError", .type "Exception", .type "BaseException", .type "object"] "ValueError.__new__" = true)
    (k_Nought : PySem.W.keepIn K (.ref a_Nought) = true)
    (b_Nought : PySem.W.subIn K (.ref a_Nought) (.type "BaseException") = some true)
    (t_Nought : PySem.W.typeIn K (.ref a_Nought) = some (.type "type"))
    (x_NoText : PySem.W.excIn K a_NoText [.type "ValueError", .type "Exception", .type "BaseException", .type "object"] "ValueError.__new__" = true)
    (k_NoText : PySem.W.keepIn K (.ref a_NoText) = true)
    (b_NoText : PySem.W.subIn K (.ref a_NoText) (.type "BaseException") = some true)
    (t_NoText : PySem.W.typeIn K (.ref a_NoText) = some (.type "type"))
    (x_NoRow : PySem.W.excIn K a_NoRow [.type "ValueError", .type "Exception", .type "BaseException", .type "object"] "ValueError.__new__" = true)
    (k_NoRow : PySem.W.keepIn K (.ref a_NoRow) = true)
    (b_NoRow : PySem.W.subIn K (.ref a_NoRow) (.type "BaseException") = some true)
    (t_NoRow : PySem.W.typeIn K (.ref a_NoRow) = some (.type "type"))
    (x_NoMachine : PySem.W.excIn K a_NoMachine [.type "ValueError", .type "Exception", .type "BaseException", .type "object"] "ValueError.__new__" = true)
    (k_NoMachine : PySem.W.keepIn K (.ref a_NoMachine) = true)
    (b_NoMachine : PySem.W.subIn K (.ref a_NoMachine) (.type "BaseException") = some true)
    (t_NoMachine : PySem.W.typeIn K (.ref a_NoMachine) = some (.type "type"))
    (x_NoWord : PySem.W.excIn K a_NoWord [.type "ValueError", .type "Exception", .type "BaseException", .type "object"] "ValueError.__new__" = true)
    (k_NoWord : PySem.W.keepIn K (.ref a_NoWord) = true)
    (b_NoWord : PySem.W.subIn K (.ref a_NoWord) (.type "BaseException") = some true)
    (t_NoWord : PySem.W.typeIn K (.ref a_NoWord) = some (.type "type"))
    (x_OtherSigns : PySem.W.excIn K a_OtherSigns [.type "ValueError", .type "Exception", .type "BaseException", .type "object"] "ValueError.__new__" = true)
    (k_OtherSigns : PySem.W.keepIn K (.ref a_OtherSigns) = true)
    (b_OtherSigns : PySem.W.subIn K (.ref a_OtherSigns) (.type "BaseException") = some true)
    (t_OtherSigns : PySem.W.typeIn K (.ref a_OtherSigns) = some (.type "type"))
    (x_TooMany : PySem.W.excIn K a_TooMany [.type "ValueError", .type "Exception", .type "BaseException", .type "object"] "ValueError.__new__" = true)
    (k_TooMany : PySem.W.keepIn K (.ref a_TooMany) = true)
    (b_TooMany : PySem.W.subIn K (.ref a_TooMany) (.type "BaseException") = some true)
    (t_TooMany : PySem.W.typeIn K (.ref a_TooMany) = some (.type "type"))
    (dc_WeighError : PySem.W.hasDictIn K a_WeighError = true)
    (s_Nought_WeighError : PySem.W.subIn K (.ref a_Nought) (.ref a_WeighError) = some true)
    (g1_Nought : PySem.W.findIn K (.ref a_Nought) "__getattribute__" = some (some (.builtin "BaseException.__getattribute__")))
    (g2_Nought : PySem.W.findIn K (.ref a_Nought) "__getattr__" = some none)
    (g4_Nought : PySem.W.hasDictIn K a_Nought = true)
    (g5_Nought : PySem.W.findIn K (.ref a_Nought) "__class__" = some (some (.builtin "object.__class__")))
    (g6_Nought : PySem.W.specialIn K (.builtin "object.__class__") "__get__" = some (some (.builtin "getset_descriptor.__get__")))
    (g7_Nought : PySem.W.takesIn K (.builtin "object.__class__") = some true)
    (g8_Nought : PySem.W.mroIn K a_Nought (.type "object") = some true)
    (ic_NoText : PySem.W.isClsIn K a_NoText = true)
    (ne_Nought_NoText : a_Nought ≠ a_NoText)
    (s_Nought_NoText : PySem.W.subIn K (.ref a_Nought) (.ref a_NoText) = some false)
    (ic_NoRow : PySem.W.isClsIn K a_NoRow = true)
    (ne_Nought_NoRow : a_Nought ≠ a_NoRow)
    (s_Nought_NoRow : PySem.W.subIn K (.ref a_Nought) (.ref a_NoRow) = some false)
    (ic_NoMachine : PySem.W.isClsIn K a_NoMachine = true)
    (ne_Nought_NoMachine : a_Nought ≠ a_NoMachine)
    (s_Nought_NoMachine : PySem.W.subIn K (.ref a_Nought) (.ref a_NoMachine) = some false)
    (ic_NoWord : PySem.W.isClsIn K a_NoWord = true)
    (ne_Nought_NoWord : a_Nought ≠ a_NoWord)
    (s_Nought_NoWord : PySem.W.subIn K (.ref a_Nought) (.ref a_NoWord) = some false)
    (ic_OtherSigns : PySem.W.isClsIn K a_OtherSigns = true)
    (ne_Nought_OtherSigns : a_Nought ≠ a_OtherSigns)
    (s_Nought_OtherSigns : PySem.W.subIn K (.ref a_Nought) (.ref a_OtherSigns) = some false)
    (ic_TooMany : PySem.W.isClsIn K a_TooMany = true)
    (ne_Nought_TooMany : a_Nought ≠ a_TooMany)
    (s_Nought_TooMany : PySem.W.subIn K (.ref a_Nought) (.ref a_TooMany) = some false)
    (sv_Nought : PySem.W.subIn K (.ref a_Nought) (.type "ValueError") = some true) :
    ∃ fd : FuncData, (∀ (s : Shared) (v : Value), BindsTo s fd ⟨[v], []⟩ [("_law_script", v)]) ∧ ∀ base : Heap, K.In base → base.Ns mainGlobals mg → FnOk l.prog w K mg base CX0 9 fa fd ["_law_script"] (spLaw K) := by
  have e := hfa.symm.trans (PySem.W.mg_of X G h1_law)
  cases e
  have T : Tx K mg a_WeighError a_Nought a_NoText a_NoRow a_NoMachine a_NoWord a_OtherSigns a_TooMany := {
    d_divisor := ⟨_, _, fun_mk (st := s_divisor) h2_divisor h3_divisor h4_divisor, PySem.W.mg_of X G h1_divisor, (fun_mk (st := s_divisor) h2_divisor h3_divisor h4_divisor).binds (ps := ["one", "other"]) fun _ _ _ _ _ _ us hl => match us, hl with | [_, _], _ => rfl⟩,
    d_share := ⟨_, _, fun_mk (st := s_share) h2_share h3_share h4_share, PySem.W.mg_of X G h1_share, (fun_mk (st := s_share) h2_share h3_share h4_share).binds (ps := ["top", "bottom"]) fun _ _ _ _ _ _ us hl => match us, hl with | [_, _], _ => rfl⟩,
    d_plus := ⟨_, _, fun_mk (st := s_plus) h2_plus h3_plus h4_plus, PySem.W.mg_of X G h1_plus, (fun_mk (st := s_plus) h2_plus h3_plus h4_plus).binds (ps := ["one", "other"]) fun _ _ _ _ _ _ us hl => match us, hl with | [_, _], _ => rfl⟩,
    d_less := ⟨_, _, fun_mk (st := s_less) h2_less h3_less h4_less, PySem.W.mg_of X G h1_less, (fun_mk (st := s_less) h2_less h3_less h4_less).binds (ps := ["one", "other"]) fun _ _ _ _ _ _ us hl => match us, hl with | [_, _], _ => rfl⟩,
    d_times := ⟨_, _, fun_mk (st := s_times) h2_times h3_times h4_times, PySem.W.mg_of X G h1_times, (fun_mk (st := s_times) h2_times h3_times h4_times).binds (ps := ["one", "other"]) fun _ _ _ _ _ _ us hl => match us, hl with | [_, _], _ => rfl⟩,
    d_over := ⟨_, _, fun_mk (st := s_over) h2_over h3_over h4_over, PySem.W.mg_of X G h1_over, (fun_mk (st := s_over) h2_over h3_over h4_over).binds (ps := ["one", "other"]) fun _ _ _ _ _ _ us hl => match us, hl with | [_, _], _ => rfl⟩,
    d__law_cell_at := ⟨_, _, fun_mk (st := s_law_cell_at) h2_law_cell_at h3_law_cell_at h4_law_cell_at, PySem.W.mg_of X G h1_law_cell_at, (fun_mk (st := s_law_cell_at) h2_law_cell_at h3_law_cell_at h4_law_cell_at).binds (ps := ["_law_script", "_law_k"]) fun _ _ _ _ _ _ us hl => match us, hl with | [_, _], _ => rfl⟩,
    d__law_whole := ⟨_, _, fun_mk (st := s_law_whole) h2_law_whole h3_law_whole h4_law_whole, PySem.W.mg_of X G h1_law_whole, (fun_mk (st := s_law_whole) h2_law_whole h3_law_whole h4_law_whole).binds (ps := ["_law_found"]) fun _ _ _ _ _ _ us hl => match us, hl with | [_], _ => rfl⟩,
    d__law_common := ⟨_, _, fun_mk (st := s_law_common) h2_law_common h3_law_common h4_law_common, PySem.W.mg_of X G h1_law_common, (fun_mk (st := s_law_common) h2_law_common h3_law_common h4_law_common).binds (ps := ["_law_one", "_law_other"]) fun _ _ _ _ _ _ us hl => match us, hl with | [_, _], _ => rfl⟩,
    d__law_share := ⟨_, _, fun_mk (st := s_law_share) h2_law_share h3_law_share h4_law_share, PySem.W.mg_of X G h1_law_share, (fun_mk (st := s_law_share) h2_law_share h3_law_share h4_law_share).binds (ps := ["_law_top", "_law_bottom"]) fun _ _ _ _ _ _ us hl => match us, hl with | [_, _], _ => rfl⟩,
    d__law_is := ⟨_, _, fun_mk (st := s_law_is) h2_law_is h3_law_is h4_law_is, PySem.W.mg_of X G h1_law_is, (fun_mk (st := s_law_is) h2_law_is h3_law_is h4_law_is).binds (ps := ["_law_found", "_law_due"]) fun _ _ _ _ _ _ us hl => match us, hl with | [_, _], _ => rfl⟩,
    d__law_number := ⟨_, _, fun_mk (st := s_law_number) h2_law_number h3_law_number h4_law_number, PySem.W.mg_of X G h1_law_number, (fun_mk (st := s_law_number) h2_law_number h3_law_number h4_law_number).binds (ps := ["_law_cell"]) fun _ _ _ _ _ _ us hl => match us, hl with | [_], _ => rfl⟩,
    d__law_word_of := ⟨_, _, fun_mk (st := s_law_word_of) h2_law_word_of h3_law_word_of h4_law_word_of, PySem.W.mg_of X G h1_law_word_of, (fun_mk (st := s_law_word_of) h2_law_word_of h3_law_word_of h4_law_word_of).binds (ps := ["_law_e"]) fun _ _ _ _ _ _ us hl => match us, hl with | [_], _ => rfl⟩,
    d__law_over := ⟨_, _, fun_mk (st := s_law_over) h2_law_over h3_law_over h4_law_over, PySem.W.mg_of X G h1_law_over, (fun_mk (st := s_law_over) h2_law_over h3_law_over h4_law_over).binds (ps := ["_law_one", "_law_other"]) fun _ _ _ _ _ _ us hl => match us, hl with | [_, _], _ => rfl⟩,
    d__law_quotient := ⟨_, _, fun_mk (st := s_law_quotient) h2_law_quotient h3_law_quotient h4_law_quotient, PySem.W.mg_of X G h1_law_quotient, (fun_mk (st := s_law_quotient) h2_law_quotient h3_law_quotient h4_law_quotient).binds (ps := ["_law_one", "_law_other"]) fun _ _ _ _ _ _ us hl => match us, hl with | [_, _], _ => rfl⟩,
    d_law := ⟨_, _, fun_mk (st := s_law) h2_law h3_law h4_law, PySem.W.mg_of X G h1_law, (fun_mk (st := s_law) h2_law h3_law h4_law).binds (ps := ["_law_script"]) fun _ _ _ _ _ _ us hl => match us, hl with | [_], _ => rfl⟩,
    n_abs := PySem.W.mg_none_of X G n_abs,
    n_len := PySem.W.mg_none_of X G n_len,
    n_isinstance := PySem.W.mg_none_of X G n_isinstance,
    n_int := PySem.W.mg_none_of X G n_int,
    n_bool := PySem.W.mg_none_of X G n_bool,
    n_tuple := PySem.W.mg_none_of X G n_tuple,
    n_ValueError := PySem.W.mg_none_of X G n_ValueError,
    n_max := PySem.W.mg_none_of X G n_max,
    n_range := PySem.W.mg_none_of X G n_range,
    m_WeighError := PySem.W.mg_of X G m_WeighError,
    m_Nought := PySem.W.mg_of X G m_Nought,
    m_NoText := PySem.W.mg_of X G m_NoText,
    m_NoRow := PySem.W.mg_of X G m_NoRow,
    m_NoMachine := PySem.W.mg_of X G m_NoMachine,
    m_NoWord := PySem.W.mg_of X G m_NoWord,
    m_OtherSigns := PySem.W.mg_of X G m_OtherSigns,
    m_TooMany := PySem.W.mg_of X G m_TooMany,
    x_WeighError := x_WeighError,
    k_WeighError := k_WeighError,
    b_WeighError := b_WeighError,
    t_WeighError := t_WeighError,
    x_Nought := x_Nought,
    k_Nought := k_Nought,
    b_Nought := b_Nought,
    t_Nought := t_Nought,
    x_NoText := x_NoText,
    k_NoText := k_NoText,
    b_NoText := b_NoText,
    t_NoText := t_NoText,
    x_NoRow := x_NoRow,
    k_NoRow := k_NoRow,
    b_NoRow := b_NoRow,
    t_NoRow := t_NoRow,
    x_NoMachine := x_NoMachine,
    k_NoMachine := k_NoMachine,
    b_NoMachine := b_NoMachine,
    t_NoMachine := t_NoMachine,
    x_NoWord := x_NoWord,
    k_NoWord := k_NoWord,
    b_NoWord := b_NoWord,
    t_NoWord := t_NoWord,
    x_OtherSigns := x_OtherSigns,
    k_OtherSigns := k_OtherSigns,
    b_OtherSigns := b_OtherSigns,
    t_OtherSigns := t_OtherSigns,
    x_TooMany := x_TooMany,
    k_TooMany := k_TooMany,
    b_TooMany := b_TooMany,
    t_TooMany := t_TooMany,
    em_Nought := PySem.W.exm_ref b_WeighError dc_WeighError t_WeighError s_Nought_WeighError,
    ge_Nought := ⟨g1_Nought, g2_Nought, b_Nought, g4_Nought, g5_Nought, g6_Nought, g7_Nought, g8_Nought⟩,
    is_Nought_Nought := kit_self,
    is_Nought_NoText := kit_other ne_Nought_NoText ic_NoText t_NoText s_Nought_NoText,
    is_Nought_NoRow := kit_other ne_Nought_NoRow ic_NoRow t_NoRow s_Nought_NoRow,
    is_Nought_NoMachine := kit_other ne_Nought_NoMachine ic_NoMachine t_NoMachine s_Nought_NoMachine,
    is_Nought_NoWord := kit_other ne_Nought_NoWord ic_NoWord t_NoWord s_Nought_NoWord,
    is_Nought_OtherSigns := kit_other ne_Nought_OtherSigns ic_OtherSigns t_OtherSigns s_Nought_OtherSigns,
    is_Nought_TooMany := kit_other ne_Nought_TooMany ic_TooMany t_TooMany s_Nought_TooMany,
    iv_Nought := kit_val sv_Nought }
  exact ⟨PySem.W.fnOf "law" "law" (defArgs s_law) (defBody s_law) (defScope s_law) .none kV_law dc_law pm_law an_law cd_law ct_law, fun s v => .of_eq rfl, fun base _ _ => ok_law T (fun_mk (st := s_law) h2_law h3_law h4_law)⟩
end Kx
open PySem PySem.W PyProof.Rows
set_option maxRecDepth 100000 in
set_option maxHeartbeats 0 in
theorem PySem.Challenge.cw_weighwords_k02_reckoned_holds : PySem.Challenge.rw_weighwords_k02_reckoned.Holds := by
  w_on; o_law; k_head; (case hw => w_witness2)
  k_fill
  refine L2.walk_ofB (l := PySem.Challenge.rw_weighwords_k02_reckoned) (n := 63) (k := 9) (x := "_law_script") (CX := fun _ => L2.CX0) (sp := fun w => DL.spLaw _) rfl (by decide) rfl ⟨rfl, by decide, by decide⟩ (fun w h Y => PySem.W.kIn_of Y) ?F (fun _ _ a ns hl hb _ hS => ⟨a, ns, rfl, hS, hl, hb, fun _ => rfl⟩) (fun _ _ _ _ _ h => h)
  case F =>
    intro w mg fa h KX G hmg
    refine' Kx.all_mk KX G hmg ?h1_divisor ?h2_divisor ?h3_divisor ?h4_divisor ?h1_share ?h2_share ?h3_share ?h4_share ?h1_plus ?h2_plus ?h3_plus ?h4_plus ?h1_less ?h2_less ?h3_less ?h4_less ?h1_times ?h2_times ?h3_times ?h4_times ?h1_over ?h2_over ?h3_over ?h4_over ?h1_law_cell_at ?h2_law_cell_at ?h3_law_cell_at ?h4_law_cell_at ?h1_law_whole ?h2_law_whole ?h3_law_whole ?h4_law_whole ?h1_law_common ?h2_law_common ?h3_law_common ?h4_law_common ?h1_law_share ?h2_law_share ?h3_law_share ?h4_law_share ?h1_law_is ?h2_law_is ?h3_law_is ?h4_law_is ?h1_law_number ?h2_law_number ?h3_law_number ?h4_law_number ?h1_law_word_of ?h2_law_word_of ?h3_law_word_of ?h4_law_word_of ?h1_law_over ?h2_law_over ?h3_law_over ?h4_law_over ?h1_law_quotient ?h2_law_quotient ?h3_law_quotient ?h4_law_quotient ?h1_law ?h2_law ?h3_law ?h4_law ?n_abs ?n_len ?n_isinstance ?n_int ?n_bool ?n_tuple ?n_ValueError ?n_max ?n_range ?m_WeighError ?m_Nought ?m_NoText ?m_NoRow ?m_NoMachine ?m_NoWord ?m_OtherSigns ?m_TooMany ?x_WeighError ?k_WeighError ?b_WeighError ?t_WeighError ?x_Nought ?k_Nought ?b_Nought ?t_Nought ?x_NoText ?k_NoText ?b_NoText ?t_NoText ?x_NoRow ?k_NoRow ?b_NoRow ?t_NoRow ?x_NoMachine ?k_NoMachine ?b_NoMachine ?t_NoMachine ?x_NoWord ?k_NoWord ?b_NoWord ?t_NoWord ?x_OtherSigns ?k_OtherSigns ?b_OtherSigns ?t_OtherSigns ?x_TooMany ?k_TooMany ?b_TooMany ?t_TooMany ?dc_WeighError ?s_Nought_WeighError ?g1_Nought ?g2_Nought ?g4_Nought ?g5_Nought ?g6_Nought ?g7_Nought ?g8_Nought ?ic_NoText ?ne_Nought_NoText ?s_Nought_NoText ?ic_NoRow ?ne_Nought_NoRow ?s_Nought_NoRow ?ic_NoMachine ?ne_Nought_NoMachine ?s_Nought_NoMachine ?ic_NoWord ?ne_Nought_NoWord ?s_Nought_NoWord ?ic_OtherSigns ?ne_Nought_OtherSigns ?s_Nought_OtherSigns ?ic_TooMany ?ne_Nought_TooMany ?s_Nought_TooMany ?sv_Nought
    (case h1_divisor => k_is)
    (case h2_divisor => k_is)
    (case h3_divisor => k_is)
    (case h4_divisor => k_is)
    (case h1_share => k_is)
    (case h2_share => k_is)
    (case h3_share => k_is)
    (case h4_share => k_is)
    (case h1_plus => k_is)
    (case h2_plus => k_is)
    (case h3_plus => k_is)
    (case h4_plus => k_is)
    (case h1_less => k_is)
    (case h2_less => k_is)
    (case h3_less => k_is)
    (case h4_less => k_is)
    (case h1_times => k_is)
    (case h2_times => k_is)
    (case h3_times => k_is)
    (case h4_times => k_is)
    (case h1_over => k_is)
    (case h2_over => k_is)
    (case h3_over => k_is)
    (case h4_over => k_is)
    (case h1_law_cell_at => k_is)
    (case h2_law_cell_at => k_is)
    (case h3_law_cell_at => k_is)
    (case h4_law_cell_at => k_is)
    (case h1_law_whole => k_is)
    (case h2_law_whole => k_is)
    (case h3_law_whole => k_is)
    (case h4_law_whole => k_is)
    (case h1_law_common => k_is)
    (case h2_law_common => k_is)
    (case h3_law_common => k_is)
    (case h4_law_common => k_is)
    (case h1_law_share => k_is)
    (case h2_law_share => k_is)
    (case h3_law_share => k_is)
    (case h4_law_share => k_is)
    (case h1_law_is => k_is)
    (case h2_law_is => k_is)
    (case h3_law_is => k_is)
    (case h4_law_is => k_is)
    (case h1_law_number => k_is)
    (case h2_law_number => k_is)
    (case h3_law_number => k_is)
    (case h4_law_number => k_is)
    (case h1_law_word_of => k_is)
    (case h2_law_word_of => k_is)
    (case h3_law_word_of => k_is)
    (case h4_law_word_of => k_is)
    (case h1_law_over => k_is)
    (case h2_law_over => k_is)
    (case h3_law_over => k_is)
    (case h4_law_over => k_is)
    (case h1_law_quotient => k_is)
    (case h2_law_quotient => k_is)
    (case h3_law_quotient => k_is)
    (case h4_law_quotient => k_is)
    (case h1_law => k_is)
    (case h2_law => k_is)
    (case h3_law => k_is)
    (case h4_law => k_is)
    (case n_abs => k_is)
    (case n_len => k_is)
    (case n_isinstance => k_is)
    (case n_int => k_is)
    (case n_bool => k_is)
    (case n_tuple => k_is)
    (case n_ValueError => k_is)
    (case n_max => k_is)
    (case n_range => k_is)
    (case m_WeighError => k_is)
    (case m_Nought => k_is)
    (case m_NoText => k_is)
    (case m_NoRow => k_is)
    (case m_NoMachine => k_is)
    (case m_NoWord => k_is)
    (case m_OtherSigns => k_is)
    (case m_TooMany => k_is)
    (case x_WeighError => k_exc)
    (case k_WeighError => k_is)
    (case b_WeighError => k_is)
    (case t_WeighError => k_is)
    (case x_Nought => k_exc)
    (case k_Nought => k_is)
    (case b_Nought => k_is)
    (case t_Nought => k_is)
    (case x_NoText => k_exc)
    (case k_NoText => k_is)
    (case b_NoText => k_is)
    (case t_NoText => k_is)
    (case x_NoRow => k_exc)
    (case k_NoRow => k_is)
    (case b_NoRow => k_is)
    (case t_NoRow => k_is)
    (case x_NoMachine => k_exc)
    (case k_NoMachine => k_is)
    (case b_NoMachine => k_is)
    (case t_NoMachine => k_is)
    (case x_NoWord => k_exc)
    (case k_NoWord => k_is)
    (case b_NoWord => k_is)
    (case t_NoWord => k_is)
    (case x_OtherSigns => k_exc)
    (case k_OtherSigns => k_is)
    (case b_OtherSigns => k_is)
    (case t_OtherSigns => k_is)
    (case x_TooMany => k_exc)
    (case k_TooMany => k_is)
    (case b_TooMany => k_is)
    (case t_TooMany => k_is)
    (case dc_WeighError => k_is)
    (case s_Nought_WeighError => k_is)
    (case g1_Nought => k_is)
    (case g2_Nought => k_is)
    (case g4_Nought => k_is)
    (case g5_Nought => k_is)
    (case g6_Nought => k_is)
    (case g7_Nought => k_is)
    (case g8_Nought => k_is)
    (case ic_NoText => k_is)
    (case ne_Nought_NoText => decide)
    (case s_Nought_NoText => k_is)
    (case ic_NoRow => k_is)
    (case ne_Nought_NoRow => decide)
    (case s_Nought_NoRow => k_is)
    (case ic_NoMachine => k_is)
    (case ne_Nought_NoMachine => decide)
    (case s_Nought_NoMachine => k_is)
    (case ic_NoWord => k_is)
    (case ne_Nought_NoWord => decide)
    (case s_Nought_NoWord => k_is)
    (case ic_OtherSigns => k_is)
    (case ne_Nought_OtherSigns => decide)
    (case s_Nought_OtherSigns => k_is)
    (case ic_TooMany => k_is)
    (case ne_Nought_TooMany => decide)
    (case s_Nought_TooMany => k_is)
    (case sv_Nought => k_is)

