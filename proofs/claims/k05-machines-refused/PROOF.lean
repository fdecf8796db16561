import PyProof.Rows.All
import Wide.All
import OpenK.AllK
import Wide.FinOn
import HandS.ForMost
import HandS.Exc
import HandS.TryOnly
import HandS.ExcOwn
import HandS.WordsExc
import HandS.IsInst
import HandS.Wide
import HandS.Walk
import HandS.Style
import HandS.ExcIs
import HandS.HotCalls
import HandS.EndBits
import HandS.StrMore
import PyProof.ReprRoads
import KE.KRevSl
import PyProof.StrWalks
import KE.KDictList
import HandS.Iter
import HandS.Conv
import HandS.Codes
import PyProof.StrBlock2
import PySem.Challenge.RW_weighwords_k05_machines_refused
set_option Elab.async false
set_option linter.all false
set_option maxRecDepth 100000
set_option maxHeartbeats 1000000
namespace DL
open PySem L2

/-! ### heaps: a frozen part F below the whole H -/
theorem same_upd {H : Hp} {p : Addr} {o : HO} (h : H p = none) : Same H (upd H p o) := fun b x e => by
  rw [upd_ne (ne_of_none e h)]
  exact e
structure Gr (F H F' H' : Hp) : Prop where
  f : Same F F'
  s : Same F' H'
  h : Same H H'
  n : ∀ a, F a = none → H a ≠ none → F' a = none
section
variable {F H F1 H1 F2 H2 : Hp} {p : Addr} {o : HO}
theorem Gr.refl (s : Same F H) : Gr F H F H := ⟨Same.refl F, s, Same.refl H, fun _ h _ => h⟩
theorem some_ne {H H' : Hp} (e : Same H H') {a : Addr} (h : H a ≠ none) : H' a ≠ none := by
  cases q : H a with
  | none => exact absurd q h
  | some o => rw [e a o q]; exact fun z => nomatch z
theorem Gr.trans (a : Gr F H F1 H1) (b : Gr F1 H1 F2 H2) : Gr F H F2 H2 :=
  ⟨a.f.trans b.f, b.s, a.h.trans b.h, fun x h1 h2 => b.n x (a.n x h1 h2) (some_ne a.h h2)⟩
/-- a new object, frozen at once -/
theorem Gr.new (s : Same F H) (hp : H p = none) : Gr F H (upd F p o) (upd H p o) := by
  have fp : F p = none := s.free hp
  refine ⟨same_upd fp, fun a u e => ?_, same_upd hp, fun a h1 h2 => ?_⟩
  · by_cases ha : a = p
    · subst ha; rw [upd_same] at e; rw [upd_same]; exact e
    · rw [upd_ne ha] at e; rw [upd_ne ha]; exact s a u e
  · have ha : a ≠ p := fun z => h2 (by rw [z]; exact hp)
    rw [upd_ne ha]; exact h1
/-- a new object, not frozen -/
theorem Gr.newO (s : Same F H) (hp : H p = none) : Gr F H F (upd H p o) :=
  ⟨Same.refl F, fun a u e => by rw [upd_ne (ne_of_none (s a u e) hp)]; exact s a u e, same_upd hp, fun _ h _ => h⟩
/-- a new object in the whole stays out of what grows -/
theorem Gr.out (g : Gr F H F1 H1) (h1 : F p = none) (h2 : H p = some o) : F1 p = none ∧ H1 p = some o :=
  ⟨g.n p h1 (by rw [h2]; exact fun z => nomatch z), g.h p o h2⟩
end

/-! ### data -/
inductive D where
  | non | bl (b : Bool) | int (i : Int) | str (x : Str) | lst (ds : List D) | tup (ds : List D) | dct | scr (ns : List Int) | adr (a : Addr) | ty (n : String) | ins (C : Addr) (fs : List (Str × D))
mutual
inductive Rp (K : PySem.W.Frag) (H : Hp) : V → D → Prop
  | non : Rp K H .non .non
  | bl (b : Bool) : Rp K H (.bl b) (.bl b)
  | int (i : Int) : Rp K H (.int i) (.int i)
  | str (x : Str) : Rp K H (.str x) (.str x)
  | lst {a : Addr} {xs : List V} {ds : List D} : H a = some (.lst xs) → RpA K H xs ds → Rp K H (.ref a) (.lst ds)
  | tup {a : Addr} {xs : List V} {ds : List D} : SqT K H a xs → RpA K H xs ds → Rp K H (.ref a) (.tup ds)
  | dct {a : Addr} : H a = some (.dK []) → Rp K H (.ref a) .dct
  | scr {a : Addr} {ns : List Int} : SqL K H a (ns.map V.int) → Rp K H (.ref a) (.scr ns)
  | adr (a : Addr) : Rp K H (.ref a) (.adr a)
  | ty (n : String) : Rp K H (.ty n) (.ty n)
  | ins {a C dx : Addr} {fs : List (Str × V)} {gs : List (Str × D)} : H a = some (.ins C dx fs) → RpF K H fs gs → Rp K H (.ref a) (.ins C gs)
inductive RpA (K : PySem.W.Frag) (H : Hp) : List V → List D → Prop
  | nil : RpA K H [] []
  | cons {v : V} {vs : List V} {d : D} {ds : List D} : Rp K H v d → RpA K H vs ds → RpA K H (v :: vs) (d :: ds)
inductive RpF (K : PySem.W.Frag) (H : Hp) : List (Str × V) → List (Str × D) → Prop
  | nil : RpF K H [] []
  | cons {f : Str} {v : V} {vs : List (Str × V)} {d : D} {ds : List (Str × D)} : Rp K H v d → RpF K H vs ds → RpF K H ((f, v) :: vs) ((f, d) :: ds)
end
theorem sqt_mono {K : PySem.W.Frag} {H H' : Hp} {a : Addr} {xs : List V} (e : Same H H') (h : SqT K H a xs) : SqT K H' a xs := by
  rcases h with (h | ⟨o, h⟩) | h
  · exact .inl (.inl (e _ _ h))
  · exact .inl (.inr ⟨o, e _ _ h⟩)
  · exact .inr h
section
variable {K : PySem.W.Frag} {H H' : Hp}
mutual
theorem Rp.mono (e : Same H H') : ∀ {v : V} {d : D}, Rp K H v d → Rp K H' v d
  | _, _, .non => .non
  | _, _, .bl b => .bl b
  | _, _, .int i => .int i
  | _, _, .str x => .str x
  | _, _, .lst h a => .lst (e _ _ h) (RpA.mono e a)
  | _, _, .tup h a => .tup (sqt_mono e h) (RpA.mono e a)
  | _, _, .dct h => .dct (e _ _ h)
  | _, _, .scr h => .scr (e.seq h)
  | _, _, .adr a => .adr a
  | _, _, .ty n => .ty n
  | _, _, .ins h a => .ins (e _ _ h) (RpF.mono e a)
theorem RpA.mono (e : Same H H') : ∀ {vs : List V} {ds : List D}, RpA K H vs ds → RpA K H' vs ds
  | _, _, .nil => .nil
  | _, _, .cons h t => .cons (Rp.mono e h) (RpA.mono e t)
theorem RpF.mono (e : Same H H') : ∀ {vs : List (Str × V)} {ds : List (Str × D)}, RpF K H vs ds → RpF K H' vs ds
  | _, _, .nil => .nil
  | _, _, .cons h t => .cons (Rp.mono e h) (RpF.mono e t)
end
theorem RpA.len : ∀ {vs : List V} {ds : List D}, RpA K H vs ds → vs.length = ds.length
  | _, _, .nil => rfl
  | _, _, .cons _ t => congrArg Nat.succ (RpA.len t)
theorem RpA.get : ∀ {vs : List V} {ds : List D} {i : Nat} {d : D}, RpA K H vs ds → ds[i]? = some d → ∃ v, vs[i]? = some v ∧ Rp K H v d
  | _, _, _, _, .nil, e => by simp at e
  | _, _, 0, _, .cons h _, e => by
    simp at e
    subst e
    exact ⟨_, rfl, h⟩
  | _, _, i + 1, d, .cons _ t, e => by
    obtain ⟨v, h1, h2⟩ := RpA.get (i := i) (d := d) t (by simpa using e)
    exact ⟨v, by simpa using h1, h2⟩
theorem RpA.getV : ∀ {vs : List V} {ds : List D} {i : Nat} {v : V}, RpA K H vs ds → vs[i]? = some v → ∃ d, ds[i]? = some d ∧ Rp K H v d
  | _, _, _, _, .nil, e => by simp at e
  | _, _, 0, _, .cons h _, e => by
    simp at e
    subst e
    exact ⟨_, rfl, h⟩
  | _, _, i + 1, d, .cons _ t, e => by
    obtain ⟨v, h1, h2⟩ := RpA.getV (i := i) t (by simpa using e)
    exact ⟨v, by simpa using h1, h2⟩
theorem RpA.append : ∀ {vs ws : List V} {ds es : List D}, RpA K H vs ds → RpA K H ws es → RpA K H (vs ++ ws) (ds ++ es)
  | _, _, _, _, .nil, t => t
  | _, _, _, _, .cons h t, u => .cons h (RpA.append t u)
theorem RpA.one {v : V} {d : D} (h : Rp K H v d) : RpA K H [v] [d] := .cons h .nil
theorem RpA.take (n : Nat) : ∀ {vs : List V} {ds : List D}, RpA K H vs ds → RpA K H (vs.take n) (ds.take n) := by
  induction n with
  | zero => intro vs ds h; exact .nil
  | succ n ih =>
    intro vs ds h
    cases h with
    | nil => exact .nil
    | cons h t => exact .cons h (ih t)
theorem RpA.drop (n : Nat) : ∀ {vs : List V} {ds : List D}, RpA K H vs ds → RpA K H (vs.drop n) (ds.drop n) := by
  induction n with
  | zero => intro vs ds h; exact h
  | succ n ih =>
    intro vs ds h
    cases h with
    | nil => exact .nil
    | cons h t => exact ih t
theorem RpA.reverse : ∀ {vs : List V} {ds : List D}, RpA K H vs ds → RpA K H vs.reverse ds.reverse
  | _, _, .nil => .nil
  | _, _, .cons h t => by rw [List.reverse_cons, List.reverse_cons]; exact (RpA.reverse t).append (.one h)
theorem RpA.ints : ∀ {vs : List V} {ns : List Int}, RpA K H vs (ns.map D.int) → vs = ns.map V.int
  | _, [], .nil => rfl
  | _, _ :: _, .cons (.int _) t => by rw [RpA.ints t]; rfl
theorem RpA.ofInts (ns : List Int) : RpA K H (ns.map V.int) (ns.map D.int) := by
  induction ns with
  | nil => exact .nil
  | cons n r ih => exact .cons (.int n) ih
theorem RpA.bls : ∀ {vs : List V} {ns : List Bool}, RpA K H vs (ns.map D.bl) → vs = ns.map V.bl
  | _, [], .nil => rfl
  | _, _ :: _, .cons (.bl _) t => by rw [RpA.bls t]; rfl
theorem RpA.strs : ∀ {vs : List V} {ns : List Str}, RpA K H vs (ns.map D.str) → vs = ns.map V.str
  | _, [], .nil => rfl
  | _, _ :: _, .cons (.str _) t => by rw [RpA.strs t]; rfl
theorem RpA.ofStrs (ns : List Str) : RpA K H (ns.map V.str) (ns.map D.str) := by
  induction ns with
  | nil => exact .nil
  | cons n r ih => exact .cons (.str n) ih
theorem RpA.rep {vs : List V} {ds : List D} (h : RpA K H vs ds) (n : Nat) : RpA K H (List.replicate n vs).flatten (List.replicate n ds).flatten := by
  induction n with
  | zero => exact .nil
  | succ n ih =>
    rw [List.replicate_succ, List.replicate_succ, List.flatten_cons, List.flatten_cons]
    exact h.append ih
theorem RpF.look {f : Str} {d : D} : ∀ {vs : List (Str × V)} {ds : List (Str × D)}, RpF K H vs ds → ds.lookup f = some d → ∃ v, vs.lookup f = some v ∧ Rp K H v d
  | _, _, .nil, e => by simp at e
  | (g, v) :: vs, (_, d') :: ds, .cons h t, e => by
    by_cases hg : (f == g) = true
    · simp only [List.lookup, hg] at e ⊢
      cases e
      exact ⟨v, rfl, h⟩
    · have hg' : (f == g) = false := by simpa using hg
      simp only [List.lookup, hg'] at e ⊢
      exact RpF.look t e
theorem RpF.lookNone {f : Str} : ∀ {vs : List (Str × V)} {ds : List (Str × D)}, RpF K H vs ds → ds.lookup f = none → vs.lookup f = none
  | _, _, .nil, e => rfl
  | (g, v) :: vs, (_, d') :: ds, .cons h t, e => by
    by_cases hg : (f == g) = true
    · simp only [List.lookup, hg] at e
      cases e
    · have hg' : (f == g) = false := by simpa using hg
      simp only [List.lookup, hg'] at e ⊢
      exact RpF.lookNone t e
end

/-! ### slots -/
/-- what a slot owns: a list, an instance -/
inductive Ow where
  | lst (ds : List D) | ins (q : Option Addr) (C : Addr) (gs : List (Str × D))
def Ow.toD : Ow → D
  | .lst ds => .lst ds
  | .ins _ C gs => .ins C gs
/-- where it stands, if that is told -/
def Ow.at : Ow → Addr → Prop
  | .ins (some q) _ _, p => q = p
  | _, _ => True
inductive RpO (K : PySem.W.Frag) (F : Hp) : HO → Ow → Prop
  | lst {vs : List V} {ds : List D} : RpA K F vs ds → RpO K F (.lst vs) (.lst ds)
  | ins {q : Option Addr} {C dx : Addr} {fs : List (Str × V)} {gs : List (Str × D)} : RpF K F fs gs → RpO K F (.ins C dx fs) (.ins q C gs)
theorem RpO.mono {K : PySem.W.Frag} {H H' : Hp} {h : HO} {o : Ow} (e : Same H H') (r : RpO K H h o) : RpO K H' h o := by
  cases r with
  | lst r => exact .lst (r.mono e)
  | ins r => exact .ins (r.mono e)
theorem RpO.rp {K : PySem.W.Frag} {F : Hp} {p : Addr} {h : HO} {o : Ow} (hp : F p = some h) (r : RpO K F h o) : Rp K F (.ref p) o.toD := by
  cases r with
  | lst r => exact .lst hp r
  | ins r => exact .ins hp r
inductive Sl where
  | no | fz (d : D) | own (o : Ow)
abbrev Sl.ow (ds : List D) : Sl := .own (.lst ds)
abbrev Sl.ob (q : Option Addr) (C : Addr) (gs : List (Str × D)) : Sl := .own (.ins q C gs)
abbrev Gam := List Sl
structure Ok (K : PySem.W.Frag) (F0 H0 F H : Hp) (σ : L2.St) (Γ : Gam) : Prop where
  g : Gr F0 H0 F H
  len : σ.length = Γ.length
  fz : ∀ (i : Nat) (d : D), Γ[i]? = some (.fz d) → ∃ v, σ[i]? = some (some v) ∧ Rp K F v d
  ow : ∀ (i : Nat) (o : Ow), Γ[i]? = some (.own o) → ∃ p h, σ[i]? = some (some (.ref p)) ∧ H p = some h ∧ F p = none ∧ H0 p = none ∧ RpO K F h o ∧ o.at p
  ap : ∀ (i j : Nat) (ds es : Ow) (p : Addr), i ≠ j → Γ[i]? = some (.own ds) → Γ[j]? = some (.own es) → σ[i]? = some (some (.ref p)) → σ[j]? ≠ some (some (.ref p))
section
variable {K : PySem.W.Frag} {F0 H0 F H F1 H1 : Hp} {σ : L2.St} {Γ : Gam}
theorem Ok.grow (o : Ok K F0 H0 F H σ Γ) (g : Gr F H F1 H1) : Ok K F0 H0 F1 H1 σ Γ :=
  ⟨o.g.trans g, o.len, fun i d h => by
    obtain ⟨v, h1, h2⟩ := o.fz i d h
    exact ⟨v, h1, h2.mono g.f⟩, fun i ds h => by
    obtain ⟨p, vs, h1, h2, h3, h4, h5, h6⟩ := o.ow i ds h
    obtain ⟨a, b⟩ := g.out h3 h2
    exact ⟨p, vs, h1, b, a, h4, h5.mono g.f, h6⟩, o.ap⟩
theorem set_get {α : Type} {l : List α} {i j : Nat} {x y : α} (h : (l.set i x)[j]? = some y) : (i = j ∧ y = x) ∨ (i ≠ j ∧ l[j]? = some y) := by
  by_cases e : i = j
  · subst e
    by_cases hl : i < l.length
    · rw [List.getElem?_set_self hl] at h
      exact .inl ⟨rfl, (Option.some.inj h).symm⟩
    · rw [List.getElem?_eq_none (by simpa using hl)] at h
      cases h
  · rw [List.getElem?_set_ne e] at h
    exact .inr ⟨e, h⟩
theorem set_at {α β : Type} {l : List α} {m : List β} (e : l.length = m.length) {i : Nat} {x : α} {y z : β} (h : (m.set i y)[i]? = some z) : (l.set i x)[i]? = some x := by
  have hl : i < m.length := by
    by_cases hl : i < m.length
    · exact hl
    · rw [List.getElem?_eq_none (by simpa using hl)] at h
      cases h
  exact List.getElem?_set_self (by omega)
/-- a slot takes a frozen value -/
theorem Ok.set (o : Ok K F0 H0 F H σ Γ) {i : Nat} {v : V} {d : D} (r : Rp K F v d) : Ok K F0 H0 F H (σ.set i (some v)) (Γ.set i (.fz d)) := by
  refine ⟨o.g, by simpa using o.len, fun j e h => ?_, fun j ds h => ?_, fun j k ds es p hjk h1 h2 h3 h4 => ?_⟩
  · rcases set_get h with ⟨rfl, q⟩ | ⟨n, q⟩
    · cases q
      exact ⟨v, set_at o.len h, r⟩
    · rw [List.getElem?_set_ne n]
      exact o.fz j e q
  · rcases set_get h with ⟨rfl, q⟩ | ⟨n, q⟩
    · cases q
    · rw [List.getElem?_set_ne n]
      exact o.ow j ds q
  · rcases set_get h1 with ⟨rfl, q⟩ | ⟨n1, q1⟩
    · cases q
    · rcases set_get h2 with ⟨rfl, q⟩ | ⟨n2, q2⟩
      · cases q
      · rw [List.getElem?_set_ne n1] at h3
        rw [List.getElem?_set_ne n2] at h4
        exact o.ap j k ds es p hjk q1 q2 h3 h4
/-- what stands in a slot is forgotten -/
theorem Ok.no (o : Ok K F0 H0 F H σ Γ) (i : Nat) (x : Option V) : Ok K F0 H0 F H (σ.set i x) (Γ.set i .no) := by
  refine ⟨o.g, by simpa using o.len, fun j e h => ?_, fun j ds h => ?_, fun j k ds es p hjk h1 h2 h3 h4 => ?_⟩
  · rcases set_get h with ⟨rfl, q⟩ | ⟨n, q⟩
    · cases q
    · rw [List.getElem?_set_ne n]
      exact o.fz j e q
  · rcases set_get h with ⟨rfl, q⟩ | ⟨n, q⟩
    · cases q
    · rw [List.getElem?_set_ne n]
      exact o.ow j ds q
  · rcases set_get h1 with ⟨rfl, q⟩ | ⟨n1, q1⟩
    · cases q
    · rcases set_get h2 with ⟨rfl, q⟩ | ⟨n2, q2⟩
      · cases q
      · rw [List.getElem?_set_ne n1] at h3
        rw [List.getElem?_set_ne n2] at h4
        exact o.ap j k ds es p hjk q1 q2 h3 h4
/-- Γ tells less -/
def Le (Γ Γ' : Gam) : Prop := Γ.length = Γ'.length ∧ ∀ (i : Nat) (s : Sl), Γ'[i]? = some s → s = .no ∨ Γ[i]? = some s
theorem Ok.le {Γ' : Gam} (o : Ok K F0 H0 F H σ Γ) (l : Le Γ Γ') : Ok K F0 H0 F H σ Γ' := by
  refine ⟨o.g, o.len.trans l.1, fun i d h => ?_, fun i ds h => ?_, fun i j ds es p hij h1 h2 => ?_⟩
  · rcases l.2 i _ h with q | q
    · cases q
    · exact o.fz i d q
  · rcases l.2 i _ h with q | q
    · cases q
    · exact o.ow i ds q
  · rcases l.2 i _ h1 with q | q
    · cases q
    · rcases l.2 j _ h2 with q2 | q2
      · cases q2
      · exact o.ap i j ds es p hij q q2
theorem Le.refl (Γ : Gam) : Le Γ Γ := ⟨rfl, fun _ _ h => .inr h⟩
theorem Le.cons {s s' : Sl} {Γ Γ' : Gam} (h : s' = .no ∨ s = s') (l : Le Γ Γ') : Le (s :: Γ) (s' :: Γ') := by
  refine ⟨by simp [l.1], fun i x e => ?_⟩
  cases i with
  | zero =>
    simp at e
    subst e
    rcases h with h | h
    · exact .inl h
    · exact .inr (by simp [h])
  | succ i => exact (l.2 i x (by simpa using e)).imp id fun q => by simpa using q
theorem Le.nil : Le [] [] := Le.refl _
theorem Le.trans {Γ Γ' Γ'' : Gam} (a : Le Γ Γ') (b : Le Γ' Γ'') : Le Γ Γ'' := ⟨a.1.trans b.1, fun i s h => by
  rcases b.2 i s h with q | q
  · exact .inl q
  · exact a.2 i s q⟩
/-- a new list, owned -/
theorem Ok.setOw (o : Ok K F0 H0 F H σ Γ) {i : Nat} {p : Addr} {h : HO} {ds : Ow} (hp : H p = none) (r : RpO K F h ds) (ha : ds.at p) : Ok K F0 H0 F (upd H p h) (σ.set i (some (.ref p))) (Γ.set i (.own ds)) := by
  have g := Gr.newO (o := h) o.g.s hp
  have o2 := o.grow g
  have h0 : H0 p = none := o.g.h.free hp
  have nf : F p = none := o.g.s.free hp
  have old : ∀ (j : Nat) (es : Ow) (q : Addr), Γ[j]? = some (.own es) → σ[j]? = some (some (.ref q)) → q ≠ p := fun j es q h1 h2 => by
    obtain ⟨q', ws, a, b, _⟩ := o.ow j es h1
    rw [h2] at a
    cases a
    exact ne_of_none b hp
  refine ⟨o2.g, by simpa using o.len, fun j e h' => ?_, fun j es h' => ?_, fun j k es fs q hjk h1 h2 h3 h4 => ?_⟩
  · rcases set_get h' with ⟨rfl, q⟩ | ⟨n, q⟩
    · cases q
    · rw [List.getElem?_set_ne n]
      exact o2.fz j e q
  · rcases set_get h' with ⟨rfl, q⟩ | ⟨n, q⟩
    · cases q
      exact ⟨p, _, set_at o.len h', upd_same, nf, h0, r, ha⟩
    · rw [List.getElem?_set_ne n]
      exact o2.ow j es q
  · rcases set_get h1 with ⟨e1, x1⟩ | ⟨n1, q1⟩
    · subst e1
      rw [set_at o.len h1] at h3
      cases h3
      rcases set_get h2 with ⟨e2, _⟩ | ⟨n2, q2⟩
      · exact hjk e2
      · rw [List.getElem?_set_ne n2] at h4
        exact old k fs p q2 h4 rfl
    · rw [List.getElem?_set_ne n1] at h3
      rcases set_get h2 with ⟨e2, x2⟩ | ⟨n2, q2⟩
      · subst e2
        rw [set_at o.len h2] at h4
        cases h4
        exact old j es p q1 h3 rfl
      · rw [List.getElem?_set_ne n2] at h4
        exact o.ap j k es fs q hjk q1 q2 h3 h4
/-- an owned list changes -/
theorem Ok.upOw (o : Ok K F0 H0 F H σ Γ) {i : Nat} {p : Addr} {ds : Ow} {ws : HO} {es : Ow} (hi : Γ[i]? = some (.own ds)) (hs : σ[i]? = some (some (.ref p))) (r : RpO K F ws es) (ha : es.at p) :
    Ok K F0 H0 F (upd H p ws) σ (Γ.set i (.own es)) := by
  obtain ⟨p', vs, a, b, c, d, e, _⟩ := o.ow i ds hi
  rw [hs] at a
  cases a
  have il : i < Γ.length := (List.getElem?_eq_some_iff.mp hi).1
  refine ⟨⟨o.g.f, fun x u h => ?_, fun x u h => ?_, o.g.n⟩, by simpa using o.len, fun j e' h => ?_, fun j fs h => ?_, fun j k fs gs q hjk h1 h2 h3 h4 => ?_⟩
  · rw [upd_ne (ne_of_none h c)]
    exact o.g.s x u h
  · rw [upd_ne (ne_of_none h d)]
    exact o.g.h x u h
  · rcases set_get h with ⟨rfl, q⟩ | ⟨n, q⟩
    · cases q
    · exact o.fz j e' q
  · rcases set_get h with ⟨rfl, q⟩ | ⟨n, q⟩
    · cases q
      exact ⟨p, ws, hs, upd_same, c, d, r, ha⟩
    · obtain ⟨q', xs, a', b', c', d', e', f'⟩ := o.ow j fs q
      have nq : q' ≠ p := fun z => by
        subst z
        exact o.ap i j ds fs q' n hi q hs a'
      exact ⟨q', xs, a', by rw [upd_ne nq]; exact b', c', d', e', f'⟩
  · have back : ∀ {x : Nat} {zs : Ow}, (Γ.set i (.own es))[x]? = some (.own zs) → ∃ ys, Γ[x]? = some (.own ys) := fun {x zs} h => by
      rcases set_get h with ⟨rfl, q⟩ | ⟨n, q⟩
      · exact ⟨ds, hi⟩
      · exact ⟨zs, q⟩
    obtain ⟨y1, q1⟩ := back h1
    obtain ⟨y2, q2⟩ := back h2
    exact o.ap j k y1 y2 q hjk q1 q2 h3 h4
/-- an owned list is frozen -/
theorem Ok.freeze (o : Ok K F0 H0 F H σ Γ) {i : Nat} {ds : Ow} (hi : Γ[i]? = some (.own ds)) : ∃ F', Gr F0 H0 F' H ∧ Same F F' ∧ Ok K F0 H0 F' H σ (Γ.set i (.fz ds.toD)) ∧ ∃ p, ds.at p ∧ Rp K F' (.ref p) ds.toD := by
  obtain ⟨p, vs, a, b, c, d, e, at_⟩ := o.ow i ds hi
  have sF : Same F (upd F p vs) := same_upd c
  have g : Gr F0 H0 (upd F p vs) H := by
    refine ⟨o.g.f.trans sF, fun x u h => ?_, o.g.h, fun x h1 h2 => ?_⟩
    · by_cases hx : x = p
      · subst hx; rw [upd_same] at h; cases h; exact b
      · rw [upd_ne hx] at h; exact o.g.s x u h
    · have hx : x ≠ p := fun z => h2 (by rw [z]; exact d)
      rw [upd_ne hx]; exact o.g.n x h1 h2
  refine ⟨upd F p vs, g, sF, ⟨g, by simpa using o.len, fun j e' h => ?_, fun j fs h => ?_, fun j k fs gs q hjk h1 h2 h3 h4 => ?_⟩, p, at_, RpO.rp upd_same (e.mono sF)⟩
  · rcases set_get h with ⟨rfl, q⟩ | ⟨n, q⟩
    · cases q
      exact ⟨.ref p, a, RpO.rp upd_same (e.mono sF)⟩
    · obtain ⟨v, h1, h2⟩ := o.fz j e' q
      exact ⟨v, h1, h2.mono sF⟩
  · rcases set_get h with ⟨rfl, q⟩ | ⟨n, q⟩
    · cases q
    · obtain ⟨q', xs, a', b', c', d', e', f'⟩ := o.ow j fs q
      have nq : q' ≠ p := fun z => by
        subst z
        exact o.ap i j ds fs q' n hi q a a'
      exact ⟨q', xs, a', b', by rw [upd_ne nq]; exact c', d', e'.mono sF, f'⟩
  · rcases set_get h1 with ⟨rfl, q⟩ | ⟨n1, q1⟩
    · cases q
    · rcases set_get h2 with ⟨rfl, q⟩ | ⟨n2, q2⟩
      · cases q
      · exact o.ap j k fs gs q hjk q1 q2 h3 h4
/-- the slots of a block of its own -/
def wipeG (Γ : Gam) : List Nat → Gam
  | [] => Γ
  | v :: vs => (wipeG Γ vs).set v .no
theorem Ok.wipe (o : Ok K F0 H0 F H σ Γ) : ∀ vs : List Nat, Ok K F0 H0 F H (L2.wipe σ vs) (wipeG Γ vs)
  | [] => o
  | v :: vs => (Ok.wipe o vs).no v none
end
theorem set_set_ne {α : Type} (l : List α) {i j : Nat} (h : i ≠ j) (x y : α) : (l.set i x).set j y = (l.set j y).set i x := (List.set_comm x y h)
theorem wipe_set {σ : L2.St} {j : Nat} {x : Option V} : ∀ {vs : List Nat}, j ∈ vs → L2.wipe (σ.set j x) vs = L2.wipe σ vs
  | [], h => by cases h
  | v :: vs, h => by
    show (L2.wipe (σ.set j x) vs).set v none = (L2.wipe σ vs).set v none
    by_cases hm : j ∈ vs
    · rw [wipe_set hm]
    · rcases List.mem_cons.mp h with e | e
      · subst e
        have step : ∀ ws : List Nat, j ∉ ws → L2.wipe (σ.set j x) ws = (L2.wipe σ ws).set j x := by
          intro ws
          induction ws with
          | nil => intro _; rfl
          | cons w ws ih =>
            intro hn
            show (L2.wipe (σ.set j x) ws).set w none = ((L2.wipe σ ws).set w none).set j x
            rw [ih fun z => hn (List.mem_cons_of_mem _ z)]
            exact set_set_ne _ (fun z => hn (by rw [z]; exact List.mem_cons_self)) _ _
        rw [step vs hm, List.set_set]
      · exact absurd e hm
theorem wipe_wipe (σ : L2.St) : ∀ vs : List Nat, L2.wipe (L2.wipe σ vs) vs = L2.wipe σ vs := by
  have step : ∀ (ws vs : List Nat), (∀ w ∈ ws, w ∈ vs) → L2.wipe (L2.wipe σ ws) vs = L2.wipe σ vs := by
    intro ws
    induction ws with
    | nil => intro vs _; rfl
    | cons w ws ih =>
      intro vs h
      show L2.wipe ((L2.wipe σ ws).set w none) vs = _
      rw [wipe_set (h w List.mem_cons_self)]
      exact ih vs fun x hx => h x (List.mem_cons_of_mem _ hx)
  exact fun vs => step vs vs fun _ h => h
end DL

namespace DL
open PySem L2

/-! ### what evaluates to what -/
def Ed (K : PySem.W.Frag) (te : TE) (Γ : Gam) (d : D) : Prop := ∀ (F0 H0 F H : Hp) (σ : L2.St), Ok K F0 H0 F H σ Γ → ∀ Q : VK, (∀ v F1 H1, Gr F H F1 H1 → Rp K F1 v d → Q v H1) → te σ H Q
def Et (K : PySem.W.Frag) (tt : TT) (Γ : Gam) (b : Bool) : Prop := ∀ (F0 H0 F H : Hp) (σ : L2.St), Ok K F0 H0 F H σ Γ → ∀ Q : Bool → Hp → Prop, (∀ F1 H1, Gr F H F1 H1 → Q b H1) → tt σ H Q
def Ea (K : PySem.W.Frag) (ta : TA) (Γ : Gam) (ds : List D) : Prop := ∀ (F0 H0 F H : Hp) (σ : L2.St), Ok K F0 H0 F H σ Γ → ∀ Q : List V → Hp → Prop, (∀ vs F1 H1, Gr F H F1 H1 → RpA K F1 vs ds → Q vs H1) → ta σ H Q
def Eo (K : PySem.W.Frag) (to : TO) (Γ : Gam) (o : Option Int) : Prop := ∀ (F0 H0 F H : Hp) (σ : L2.St), Ok K F0 H0 F H σ Γ → ∀ Q : Option Int → Hp → Prop, (∀ F1 H1, Gr F H F1 H1 → Q o H1) → to σ H Q
/-- a new list that nobody else holds -/
def Ew (K : PySem.W.Frag) (te : TE) (Γ : Gam) (ds : List D) : Prop := ∀ (F0 H0 F H : Hp) (σ : L2.St), Ok K F0 H0 F H σ Γ → ∀ Q : VK, (∀ p vs F1 H1, Gr F H F1 H1 → H p = none → F1 p = none → H1 p = some (.lst vs) → RpA K F1 vs ds → Q (.ref p) H1) → te σ H Q
/-- it raises an error of the class at C -/
def Xd (K : PySem.W.Frag) (E : XK) (te : TE) (Γ : Gam) (C : Addr) : Prop := ∀ (F0 H0 F H : Hp) (σ : L2.St), Ok K F0 H0 F H σ Γ → (∀ F1 H1, Gr F H F1 H1 → E (.ref C) none H1) → ∀ Q : VK, te σ H Q
def Xa (K : PySem.W.Frag) (E : XK) (ta : TA) (Γ : Gam) (C : Addr) : Prop := ∀ (F0 H0 F H : Hp) (σ : L2.St), Ok K F0 H0 F H σ Γ → (∀ F1 H1, Gr F H F1 H1 → E (.ref C) none H1) → ∀ Q : List V → Hp → Prop, ta σ H Q
/-! by values -/
def R2D (K : PySem.W.Frag) (r : R2) (dx dy d : D) : Prop := ∀ (F H : Hp) (x y : V), Same F H → Rp K F x dx → Rp K F y dy → ∀ Q : VK, (∀ v F1 H1, Gr F H F1 H1 → Rp K F1 v d → Q v H1) → r x y H Q
def R1D (K : PySem.W.Frag) (r : V → Hp → VK → Prop) (dx d : D) : Prop := ∀ (F H : Hp) (x : V), Same F H → Rp K F x dx → ∀ Q : VK, (∀ v F1 H1, Gr F H F1 H1 → Rp K F1 v d → Q v H1) → r x H Q
def RcD (K : PySem.W.Frag) (r : List V → Hp → VK → Prop) (ds : List D) (d : D) : Prop := ∀ (F H : Hp) (xs : List V), Same F H → RpA K F xs ds → ∀ Q : VK, (∀ v F1 H1, Gr F H F1 H1 → Rp K F1 v d → Q v H1) → r xs H Q
def RmD (K : PySem.W.Frag) (r : V → List V → Hp → VK → Prop) (dx : D) (ds : List D) (d : D) : Prop := ∀ (F H : Hp) (x : V) (xs : List V), Same F H → Rp K F x dx → RpA K F xs ds → ∀ Q : VK, (∀ v F1 H1, Gr F H F1 H1 → Rp K F1 v d → Q v H1) → r x xs H Q
def RsD (K : PySem.W.Frag) (r : V → Option Int → Option Int → Hp → VK → Prop) (dx : D) (lo hi : Option Int) (d : D) : Prop := ∀ (F H : Hp) (x : V), Same F H → Rp K F x dx → ∀ Q : VK, (∀ v F1 H1, Gr F H F1 H1 → Rp K F1 v d → Q v H1) → r x lo hi H Q
section
variable {K : PySem.W.Frag} {Γ Γ' : Gam} {ta tb te tx : TE} {t u : TT} {d dx dy : D} {ds es : List D} {tas tr : TA} {E : XK}
theorem Ed.le (h : Ed K te Γ' d) (l : Le Γ Γ') : Ed K te Γ d := fun F0 H0 F H σ o Q q => h F0 H0 F H σ (o.le l) Q q
theorem ed_is {d' : D} (h : Ed K te Γ d) (e : d = d') : Ed K te Γ d' := e ▸ h
theorem et_is {b c : Bool} (h : Et K t Γ b) (e : b = c) : Et K t Γ c := e ▸ h
theorem ed_fz (i : Nat) (h : Γ[i]? = some (.fz d)) : Ed K (tVar i) Γ d := fun F0 H0 F H σ o Q q => by
  obtain ⟨v, a, b⟩ := o.fz i d h
  exact ⟨v, a, q v F H (Gr.refl o.g.s) b⟩
theorem ed_c {v : V} (h : ∀ F, Rp K F v d) : Ed K (tC v) Γ d := fun F0 H0 F H σ o Q q => q v F H (Gr.refl o.g.s) (h F)
theorem ed_int (i : Int) : Ed K (tC (.int i)) Γ (.int i) := ed_c fun F => .int i
theorem ed_bl (i : Bool) : Ed K (tC (.bl i)) Γ (.bl i) := ed_c fun F => .bl i
theorem ed_non : Ed K (tC .non) Γ .non := ed_c fun F => .non
theorem ed_str (i : Str) : Ed K (tC (.str i)) Γ (.str i) := ed_c fun F => .str i
theorem ed_ty (i : String) : Ed K (tC (.ty i)) Γ (.ty i) := ed_c fun F => .ty i
theorem ed_adr (a : Addr) : Ed K (tC (.ref a)) Γ (.adr a) := ed_c fun F => .adr a
theorem ed_op {r : R2} (ha : Ed K ta Γ dx) (hb : Ed K tb Γ dy) (hr : R2D K r dx dy d) : Ed K (tOp r ta tb) Γ d := fun F0 H0 F H σ o Q q =>
  ha F0 H0 F H σ o _ fun v F1 H1 g1 r1 => hb F0 H0 F1 H1 σ (o.grow g1) _ fun w F2 H2 g2 r2 => hr F2 H2 v w g2.s (r1.mono g2.f) r2 Q fun z F3 H3 g3 r3 => q z F3 H3 ((g1.trans g2).trans g3) r3
theorem ed_un {r : V → Hp → VK → Prop} (ha : Ed K ta Γ dx) (hr : R1D K r dx d) : Ed K (tUn r ta) Γ d := fun F0 H0 F H σ o Q q =>
  ha F0 H0 F H σ o _ fun v F1 H1 g1 r1 => hr F1 H1 v g1.s r1 Q fun z F3 H3 g3 r3 => q z F3 H3 (g1.trans g3) r3
theorem ea_nil : Ea K tNil Γ [] := fun F0 H0 F H σ o Q q => q [] F H (Gr.refl o.g.s) .nil
theorem ea_cons (ha : Ed K ta Γ d) (hb : Ea K tr Γ ds) : Ea K (tCons ta tr) Γ (d :: ds) := fun F0 H0 F H σ o Q q =>
  ha F0 H0 F H σ o _ fun v F1 H1 g1 r1 => hb F0 H0 F1 H1 σ (o.grow g1) _ fun w F2 H2 g2 r2 => q (v :: w) F2 H2 (g1.trans g2) (.cons (r1.mono g2.f) r2)
theorem ed_cb {r : List V → Hp → VK → Prop} (ha : Ea K tas Γ ds) (hr : RcD K r ds d) : Ed K (tCB r tas) Γ d := fun F0 H0 F H σ o Q q =>
  ha F0 H0 F H σ o _ fun v F1 H1 g1 r1 => hr F1 H1 v g1.s r1 Q fun z F3 H3 g3 r3 => q z F3 H3 (g1.trans g3) r3
theorem eo_none : Eo K tNoPart Γ none := fun F0 H0 F H σ o Q q => q F H (Gr.refl o.g.s)
theorem eo_some {i : Int} (h : Ed K te Γ (.int i)) : Eo K (tPart te) Γ (some i) := fun F0 H0 F H σ o Q q =>
  h F0 H0 F H σ o _ fun v F1 H1 g1 r1 => by
    cases r1
    exact ⟨i, rfl, q F1 H1 g1⟩
theorem ed_sl {r : V → Option Int → Option Int → Hp → VK → Prop} {tl th : TO} {lo hi : Option Int} (h : Ed K te Γ dx) (h1 : Eo K tl Γ lo) (h2 : Eo K th Γ hi) (hr : RsD K r dx lo hi d) : Ed K (tSl r te tl th) Γ d := fun F0 H0 F H σ o Q q =>
  h F0 H0 F H σ o _ fun v F1 H1 g1 r1 => h1 F0 H0 F1 H1 σ (o.grow g1) _ fun F2 H2 g2 => h2 F0 H0 F2 H2 σ ((o.grow g1).grow g2) _ fun F3 H3 g3 =>
    hr F3 H3 v g3.s ((r1.mono g2.f).mono g3.f) Q fun z F4 H4 g4 r4 => q z F4 H4 (((g1.trans g2).trans g3).trans g4) r4
/-- tests -/
theorem et_test {b : Bool} (h : Ed K te Γ (.bl b)) : Et K (tTest te) Γ b := fun F0 H0 F H σ o Q q => h F0 H0 F H σ o _ fun v F1 H1 g1 r1 => by
  cases r1
  exact ⟨b, rfl, q F1 H1 g1⟩
theorem et_B {b : Bool} (h : Ed K te Γ (.bl b)) : Et K (tB te) Γ b := fun F0 H0 F H σ o Q q => h F0 H0 F H σ o _ fun v F1 H1 g1 r1 => by
  cases r1
  exact ⟨b, rfl, q F1 H1 g1⟩
theorem et_and {a b : Bool} (h1 : Et K t Γ a) (h2 : a = true → Et K u Γ b) : Et K (tAnd t u) Γ (a && b) := fun F0 H0 F H σ o Q q => h1 F0 H0 F H σ o _ fun F1 H1 g1 => by
  cases a with
  | true =>
    show u σ H1 Q
    exact h2 rfl F0 H0 F1 H1 σ (o.grow g1) Q fun F2 H2 g2 => q F2 H2 (g1.trans g2)
  | false =>
    show Q false H1
    exact q F1 H1 g1
theorem et_or {a b : Bool} (h1 : Et K t Γ a) (h2 : a = false → Et K u Γ b) : Et K (tOr t u) Γ (a || b) := fun F0 H0 F H σ o Q q => h1 F0 H0 F H σ o _ fun F1 H1 g1 => by
  cases a with
  | false =>
    show u σ H1 Q
    exact h2 rfl F0 H0 F1 H1 σ (o.grow g1) Q fun F2 H2 g2 => q F2 H2 (g1.trans g2)
  | true =>
    show Q true H1
    exact q F1 H1 g1
theorem et_not {a : Bool} (h1 : Et K t Γ a) : Et K (tNot t) Γ (!a) := fun F0 H0 F H σ o Q q => h1 F0 H0 F H σ o _ fun F1 H1 g1 => q F1 H1 g1
theorem ed_andV {a b : Bool} (h1 : Ed K ta Γ (.bl a)) (h2 : a = true → Ed K tb Γ (.bl b)) : Ed K (tAndV ta tb) Γ (.bl (a && b)) := fun F0 H0 F H σ o Q q => h1 F0 H0 F H σ o _ fun v F1 H1 g1 r1 => by
  cases r1
  refine ⟨a, rfl, ?_⟩
  cases a with
  | true =>
    show tb σ H1 Q
    exact h2 rfl F0 H0 F1 H1 σ (o.grow g1) Q fun v F2 H2 g2 r2 => q v F2 H2 (g1.trans g2) r2
  | false =>
    show Q (.bl false) H1
    exact q _ F1 H1 g1 (.bl false)
theorem ed_orV {a b : Bool} (h1 : Ed K ta Γ (.bl a)) (h2 : a = false → Ed K tb Γ (.bl b)) : Ed K (tOrV ta tb) Γ (.bl (a || b)) := fun F0 H0 F H σ o Q q => h1 F0 H0 F H σ o _ fun v F1 H1 g1 r1 => by
  cases r1
  refine ⟨a, rfl, ?_⟩
  cases a with
  | false =>
    show tb σ H1 Q
    exact h2 rfl F0 H0 F1 H1 σ (o.grow g1) Q fun v F2 H2 g2 r2 => q v F2 H2 (g1.trans g2) r2
  | true =>
    show Q (.bl true) H1
    exact q _ F1 H1 g1 (.bl true)
theorem ed_notV {a : Bool} (h1 : Ed K ta Γ (.bl a)) : Ed K (tNotV ta) Γ (.bl (!a)) := fun F0 H0 F H σ o Q q => h1 F0 H0 F H σ o _ fun v F1 H1 g1 r1 => by
  cases r1
  exact ⟨a, rfl, q _ F1 H1 g1 (.bl _)⟩
theorem et_orT (h : Et K t Γ true) : Et K (tOr t u) Γ true := et_or (b := false) h fun z => nomatch z
theorem et_orF {b : Bool} (h : Et K t Γ false) (h2 : Et K u Γ b) : Et K (tOr t u) Γ b := et_or h fun _ => h2
theorem et_andT {b : Bool} (h : Et K t Γ true) (h2 : Et K u Γ b) : Et K (tAnd t u) Γ b := et_and h fun _ => h2
theorem et_andF (h : Et K t Γ false) : Et K (tAnd t u) Γ false := et_and (b := false) h fun z => nomatch z
theorem ed_orT (h : Ed K ta Γ (.bl true)) : Ed K (tOrV ta tb) Γ (.bl true) := ed_orV (b := false) h fun z => nomatch z
theorem ed_orF {b : Bool} (h : Ed K ta Γ (.bl false)) (h2 : Ed K tb Γ (.bl b)) : Ed K (tOrV ta tb) Γ (.bl b) := ed_orV h fun _ => h2
theorem ed_andT {b : Bool} (h : Ed K ta Γ (.bl true)) (h2 : Ed K tb Γ (.bl b)) : Ed K (tAndV ta tb) Γ (.bl b) := ed_andV h fun _ => h2
theorem ed_andF (h : Ed K ta Γ (.bl false)) : Ed K (tAndV ta tb) Γ (.bl false) := ed_andV (b := false) h fun z => nomatch z
theorem et_nF (h : Et K t Γ true) : Et K (tNot t) Γ false := et_not h
theorem et_nT (h : Et K t Γ false) : Et K (tNot t) Γ true := et_not h
theorem ed_if {b : Bool} (h : Et K t Γ b) (h1 : b = true → Ed K ta Γ d) (h2 : b = false → Ed K tb Γ d) : Ed K (tIf t ta tb) Γ d := fun F0 H0 F H σ o Q q => h F0 H0 F H σ o _ fun F1 H1 g1 => by
  cases b with
  | true =>
    show ta σ H1 Q
    exact h1 rfl F0 H0 F1 H1 σ (o.grow g1) Q fun v F2 H2 g2 r2 => q v F2 H2 (g1.trans g2) r2
  | false =>
    show tb σ H1 Q
    exact h2 rfl F0 H0 F1 H1 σ (o.grow g1) Q fun v F2 H2 g2 r2 => q v F2 H2 (g1.trans g2) r2
theorem ed_chain {r r' : R2} {tc : TE} {dz : D} {a b : Bool} (ha : Ed K ta Γ dx) (hb : Ed K tb Γ dy) (h1 : R2D K r dx dy (.bl a)) (h2 : a = true → Ed K tc Γ dz ∧ R2D K r' dy dz (.bl b)) : Ed K (tChain r r' ta tb tc) Γ (.bl (a && b)) := fun F0 H0 F H σ o Q q =>
  ha F0 H0 F H σ o _ fun v F1 H1 g1 r1 => hb F0 H0 F1 H1 σ (o.grow g1) _ fun w F2 H2 g2 r2 => h1 F2 H2 v w g2.s (r1.mono g2.f) r2 _ fun z F3 H3 g3 r3 => by
    cases r3
    refine ⟨a, rfl, ?_⟩
    cases a with
    | true =>
      show tc σ H3 _
      obtain ⟨hc, h3⟩ := h2 rfl
      exact hc F0 H0 F3 H3 σ (((o.grow g1).grow g2).grow g3) _ fun y F4 H4 g4 r4 => h3 F4 H4 w y g4.s ((r2.mono g3.f).mono g4.f) r4 Q fun z F5 H5 g5 r5 => q z F5 H5 ((((g1.trans g2).trans g3).trans g4).trans g5) r5
    | false =>
      show Q (.bl false) H3
      exact q _ F3 H3 ((g1.trans g2).trans g3) (.bl false)
/-- displays -/
theorem ed_tup (h : Ea K tas Γ ds) (hl : ds.length ≤ 100000 := by exact Nat.le_of_ble_eq_true rfl) : Ed K (tTup tas) Γ (.tup ds) := fun F0 H0 F H σ o Q q => h F0 H0 F H σ o _ fun vs F1 H1 g1 r1 =>
  ⟨by rw [r1.len]; exact Nat.le_trans hl (by decide), fun p hp => by
    have g2 := Gr.new (o := .tup vs) g1.s hp
    exact q _ _ _ (g1.trans g2) (.tup (.inl (.inl upd_same)) (r1.mono g2.f))⟩
theorem ew_lst (h : Ea K tas Γ ds) (hl : ds.length ≤ 100000 := by exact Nat.le_of_ble_eq_true rfl) : Ew K (tLst tas) Γ ds := fun F0 H0 F H σ o Q q => h F0 H0 F H σ o _ fun vs F1 H1 g1 r1 =>
  ⟨by rw [r1.len]; exact Nat.le_trans hl (by decide), fun p hp => by
    have g2 := Gr.newO (o := .lst vs) g1.s hp
    exact q p vs F1 _ (g1.trans g2) (g1.h.free hp) (g1.s.free hp) upd_same r1⟩
/-- a new list frozen -/
theorem ed_ow (h : Ew K te Γ ds) : Ed K te Γ (.lst ds) := fun F0 H0 F H σ o Q q => h F0 H0 F H σ o _ fun p vs F1 H1 g1 hp hf h1 r1 => by
  have sF : Same F1 (upd F1 p (.lst vs)) := same_upd hf
  have g : Gr F H (upd F1 p (.lst vs)) H1 := ⟨g1.f.trans sF, fun x y e => by
    by_cases hx : x = p
    · subst hx; rw [upd_same] at e; cases e; exact h1
    · rw [upd_ne hx] at e; exact g1.s x y e, g1.h, fun x a b => by
    have hx : x ≠ p := fun z => b (by rw [z]; exact hp)
    rw [upd_ne hx]; exact g1.n x a b⟩
  exact q _ _ _ g (.lst upd_same (r1.mono sF))
theorem ed_dct : Ed K tDNewK Γ .dct := fun F0 H0 F H σ o Q q => fun p hp => by
  have g := Gr.new (o := .dK []) o.g.s hp
  exact q _ _ _ g (.dct upd_same)
theorem ed_lst (h : Ea K tas Γ ds) (hl : ds.length ≤ 100000 := by exact Nat.le_of_ble_eq_true rfl) : Ed K (tLst tas) Γ (.lst ds) := ed_ow (ew_lst h hl)
end

/-! ### statements -/
/-- what is frozen, but for the lists that stood already -/
noncomputable def fr (Hs F : Hp) : Hp := fun a => @ite (Option HO) (Hs a ≠ none ∧ ∃ xs, F a = some (.lst xs)) (Classical.propDecidable _) none (F a)
theorem fr_sub (Hs F : Hp) : Same (fr Hs F) F := fun a o h => by
  unfold fr at h
  split at h
  · cases h
  · exact h
theorem fr_new {Hs F : Hp} {a : Addr} {o : HO} (h : Hs a = none) (hf : F a = some o) : fr Hs F a = some o := by
  unfold fr
  rw [if_neg (fun z => z.1 h)]
  exact hf
theorem fr_oth {Hs F : Hp} {a : Addr} {o : HO} (hf : F a = some o) (h : ∀ xs, o ≠ .lst xs) : fr Hs F a = some o := by
  unfold fr
  rw [if_neg (fun z => by obtain ⟨_, xs, e⟩ := z; rw [hf] at e; exact h xs (Option.some.inj e))]
  exact hf
theorem fr_mono {Hs F F' : Hp} (e : Same F F') : Same (fr Hs F) (fr Hs F') := fun a o h => by
  have hf := fr_sub Hs F a o h
  unfold fr at h ⊢
  split at h
  · cases h
  · rename_i z
    rw [if_neg (fun y => z ⟨y.1, by obtain ⟨_, xs, q⟩ := y; rw [e a o hf] at q; exact ⟨xs, by rw [hf]; exact q⟩⟩)]
    exact e a o hf
theorem fr_weak {Hs Hs' F : Hp} (e : Same Hs Hs') : Same (fr Hs' F) (fr Hs F) := fun a o h => by
  have hf := fr_sub Hs' F a o h
  by_cases hx : ∃ xs, F a = some (.lst xs)
  · obtain ⟨xs, hx⟩ := hx
    cases hs : Hs a with
    | none => exact fr_new hs hf
    | some u =>
      unfold fr at h
      rw [if_pos ⟨(by rw [e a u hs]; exact fun z => (nomatch z)), xs, hx⟩] at h
      cases h
  · exact fr_oth hf fun xs q => hx ⟨xs, by rw [hf, q]⟩
inductive Oc where
  | nx (Γ : Gam) | rt (d : D) | lp (Γ : Gam) | ex (C : Addr) | rw (ds : List D) | rn (d : D)
def Fin (K : PySem.W.Frag) (E : XK) (De : Ends) (F0 H0 Fs : Hp) : Oc → Prop
  | .nx Γ => ∀ F H σ, Same Fs F → Ok K F0 H0 F H σ Γ → De.nx σ H
  | .lp Γ => (∀ F H σ, Same Fs F → Ok K F0 H0 F H σ Γ → De.nx σ H) ∧ (∀ F H σ, Same Fs F → Ok K F0 H0 F H σ Γ → De.ct σ H)
  | .rt d => ∀ v F H, Gr F0 H0 F H → Rp K F v d → De.rt v H
  | .ex C => ∀ F H, Gr F0 H0 F H → E (.ref C) none H
  | .rw ds => ∀ p vs F H, Gr F0 H0 F H → H0 p = none → F p = none → H p = some (.lst vs) → RpA K F vs ds → De.rt (.ref p) H
  | .rn d => ∀ v F H, Gr F0 H0 F H → Rp K (fr H0 F) v d → De.rt v H
/-- the end leaves the loop or the block -/
def Oc.out : Oc → Bool
  | .rt _ | .ex _ | .rw _ | .rn _ => true
  | _ => false
theorem Fin.mono {K : PySem.W.Frag} {E : XK} {De : Ends} {F0 H0 Fs Fs' : Hp} {o : Oc} (h : Fin K E De F0 H0 Fs o) (e : Same Fs Fs') : Fin K E De F0 H0 Fs' o := by
  cases o with
  | nx Γ => exact fun F H σ a b => h F H σ (e.trans a) b
  | lp Γ => exact ⟨fun F H σ a b => h.1 F H σ (e.trans a) b, fun F H σ a b => h.2 F H σ (e.trans a) b⟩
  | rt d => exact h
  | ex C => exact h
  | rw ds => exact h
  | rn d => exact h
theorem Fin.out {K : PySem.W.Frag} {E : XK} {De De' : Ends} {F0 H0 Fs Fs' : Hp} {o : Oc} (h : Fin K E De F0 H0 Fs o) (ho : o.out = true) (e : De'.rt = De.rt) : Fin K E De' F0 H0 Fs' o := by
  cases o with
  | nx => cases ho
  | lp => cases ho
  | rt d => intro v F H g r; rw [e]; exact h v F H g r
  | ex C => exact h
  | rw ds => intro p vs F H g a b c r; rw [e]; exact h p vs F H g a b c r
  | rn d => intro v F H g r; rw [e]; exact h v F H g r
def Sd (K : PySem.W.Frag) (E : XK) (ts : TS) (Γ : Gam) (o : Oc) : Prop := ∀ (F0 H0 F H : Hp) (σ : L2.St) (De : Ends), Ok K F0 H0 F H σ Γ → Fin K E De F0 H0 F o → ts De σ H
/-- a target takes a value -/
def Eg (K : PySem.W.Frag) (g : TG) (js : List Nat) (d : D) (Γ Γ' : Gam) : Prop := ∀ (F0 H0 F H : Hp) (σ : L2.St) (v : V), Ok K F0 H0 F H σ Γ → Rp K F v d → ∀ Q : L2.St → Hp → Prop,
  (∀ σ', Ok K F0 H0 F H σ' Γ' → (∀ vs : List Nat, (∀ j ∈ js, j ∈ vs) → L2.wipe σ' vs = L2.wipe σ vs) → Q σ' H) → g v σ H Q
def Egs (K : PySem.W.Frag) (g : TGs) (js : List Nat) (ds : List D) (Γ Γ' : Gam) : Prop := ∀ (F0 H0 F H : Hp) (σ : L2.St) (vs : List V), Ok K F0 H0 F H σ Γ → RpA K F vs ds → ∀ Q : L2.St → Hp → Prop,
  (∀ σ', Ok K F0 H0 F H σ' Γ' → (∀ vs : List Nat, (∀ j ∈ js, j ∈ vs) → L2.wipe σ' vs = L2.wipe σ vs) → Q σ' H) → g vs σ H Q
section
variable {K : PySem.W.Frag} {E : XK} {Γ Γ' Γ1 Γ2 : Gam} {ta tb te tx : TE} {t u : TT} {d dx dy : D} {ds es : List D} {tas tr : TA} {ts tu : TS} {o : Oc} {g : TG} {gs : TGs} {js ks : List Nat} {C : Addr}
theorem eg_name (i : Nat) : Eg K (gName i) [i] d Γ (Γ.set i (.fz d)) := fun F0 H0 F H σ v ok r Q q => q _ (ok.set r) fun vs h => wipe_set (h i List.mem_cons_self)
theorem egs_nil : Egs K gNil [] [] Γ Γ := fun F0 H0 F H σ vs ok r Q q => by
  cases r
  exact ⟨rfl, q σ ok fun _ _ => rfl⟩
theorem egs_cons (h1 : Eg K g js d Γ Γ1) (h2 : Egs K gs ks ds Γ1 Γ2) : Egs K (gCons g gs) (js ++ ks) (d :: ds) Γ Γ2 := fun F0 H0 F H σ vs ok r Q q => by
  cases r with
  | cons r1 r2 =>
    exact ⟨_, _, rfl, h1 F0 H0 F H σ _ ok r1 _ fun σ1 ok1 w1 => h2 F0 H0 F H σ1 _ ok1 r2 Q fun σ2 ok2 w2 => q σ2 ok2 fun vs h =>
      (w2 vs fun j hj => h j (List.mem_append_right _ hj)).trans (w1 vs fun j hj => h j (List.mem_append_left _ hj))⟩
theorem eg_tup {n : Nat} (h : Egs K gs js ds Γ Γ') (hn : ds.length = n) : Eg K (gTup K n gs) js (.tup ds) Γ Γ' := fun F0 H0 F H σ v ok r Q q => by
  cases r with
  | @tup a xs _ hs ha => exact ⟨a, xs, rfl, sqt_mono ok.g.s hs, by rw [ha.len]; exact hn, h F0 H0 F H σ xs ok ha Q q⟩
theorem eg_lst {n : Nat} (h : Egs K gs js ds Γ Γ') (hn : ds.length = n) : Eg K (gLst K n gs) js (.lst ds) Γ Γ' := fun F0 H0 F H σ v ok r Q q => by
  cases r with
  | @lst a xs _ hs ha => exact ⟨a, xs, rfl, .inl (.inl (ok.g.s _ _ hs)), by rw [ha.len]; exact hn, h F0 H0 F H σ xs ok ha Q q⟩

theorem Sd.le (h : Sd K E ts Γ' o) (l : Le Γ Γ') : Sd K E ts Γ o := fun F0 H0 F H σ De ok fin => h F0 H0 F H σ De (ok.le l) fin
theorem Sd.toLp (h : Sd K E ts Γ (.nx Γ')) : Sd K E ts Γ (.lp Γ') := fun F0 H0 F H σ De ok fin => h F0 H0 F H σ De ok fin.1
theorem Sd.nxLe (h : Sd K E ts Γ (.nx Γ1)) (l : Le Γ1 Γ2) : Sd K E ts Γ (.nx Γ2) := fun F0 H0 F H σ De ok fin => h F0 H0 F H σ De ok fun F1 H1 σ1 e1 ok1 => fin F1 H1 σ1 e1 (ok1.le l)
theorem Sd.lpLe (h : Sd K E ts Γ (.lp Γ1)) (l : Le Γ1 Γ2) : Sd K E ts Γ (.lp Γ2) := fun F0 H0 F H σ De ok fin => h F0 H0 F H σ De ok ⟨fun F1 H1 σ1 e1 ok1 => fin.1 F1 H1 σ1 e1 (ok1.le l), fun F1 H1 σ1 e1 ok1 => fin.2 F1 H1 σ1 e1 (ok1.le l)⟩
theorem sd_is {o' : Oc} (h : Sd K E ts Γ o) (e : o = o') : Sd K E ts Γ o' := e ▸ h
theorem sd_next : Sd K E tNext Γ (.nx Γ) := fun F0 H0 F H σ De ok fin => fin F H σ (Same.refl F) ok
theorem sd_seq (h1 : Sd K E ts Γ (.nx Γ1)) (h2 : Sd K E tu Γ1 o) : Sd K E (tSeq ts tu) Γ o := fun F0 H0 F H σ De ok fin => h1 F0 H0 F H σ _ ok fun F1 H1 σ1 e1 ok1 => h2 F0 H0 F1 H1 σ1 De ok1 (fin.mono e1)
theorem sd_stop (h1 : Sd K E ts Γ o) (ho : o.out = true) : Sd K E (tSeq ts tu) Γ o := fun F0 H0 F H σ De ok fin => h1 F0 H0 F H σ _ ok (fin.out ho rfl)
theorem sd_if {b : Bool} (h : Et K t Γ b) (h1 : b = true → Sd K E ts Γ o) (h2 : b = false → Sd K E tu Γ o) : Sd K E (tIfS t ts tu) Γ o := fun F0 H0 F H σ De ok fin => h F0 H0 F H σ ok _ fun F1 H1 g1 => by
  cases b with
  | true => exact h1 rfl F0 H0 F1 H1 σ De (ok.grow g1) (fin.mono g1.f)
  | false => exact h2 rfl F0 H0 F1 H1 σ De (ok.grow g1) (fin.mono g1.f)
theorem sd_ifT (h : Et K t Γ true) (h1 : Sd K E ts Γ o) : Sd K E (tIfS t ts tu) Γ o := sd_if h (fun _ => h1) fun z => nomatch z
theorem sd_ifF (h : Et K t Γ false) (h1 : Sd K E tu Γ o) : Sd K E (tIfS t ts tu) Γ o := sd_if h (fun z => nomatch z) fun _ => h1
theorem sd_set (i : Nat) (h : Ed K te Γ d) : Sd K E (tAsg te (gName i)) Γ (.nx (Γ.set i (.fz d))) := fun F0 H0 F H σ De ok fin => h F0 H0 F H σ ok _ fun v F1 H1 g1 r1 => fin F1 H1 _ g1.f ((ok.grow g1).set r1)
theorem sd_asg (h : Ed K te Γ d) (hg : Eg K g js d Γ Γ') : Sd K E (tAsg te g) Γ (.nx Γ') := fun F0 H0 F H σ De ok fin => h F0 H0 F H σ ok _ fun v F1 H1 g1 r1 => hg F0 H0 F1 H1 σ v (ok.grow g1) r1 _ fun σ' ok' _ => fin F1 H1 σ' g1.f ok'
theorem sd_par {i j : Nat} {d1 d2 : D} (h : Ea K tas Γ [d1, d2]) : Sd K E (tPar i j tas) Γ (.nx ((Γ.set i (.fz d1)).set j (.fz d2))) := fun F0 H0 F H σ De ok fin => h F0 H0 F H σ ok _ fun vs F1 H1 g1 r1 => by
  cases r1 with
  | cons r1 rr =>
    cases rr with
    | cons r2 rr =>
      cases rr
      exact ⟨_, _, rfl, fin F1 H1 _ g1.f (((ok.grow g1).set r1).set r2)⟩
theorem sd_ret (h : Ed K te Γ d) : Sd K E (tRet te) Γ (.rt d) := fun F0 H0 F H σ De ok fin => h F0 H0 F H σ ok _ fun v F1 H1 g1 r1 => fin v F1 H1 (ok.g.trans g1) r1
/-- a new list that nobody else holds is handed back -/
theorem sd_retW (h : Ew K te Γ ds) : Sd K E (tRet te) Γ (.rw ds) := fun F0 H0 F H σ De ok fin => h F0 H0 F H σ ok _ fun p vs F1 H1 g1 hp hf h1 r1 => fin p vs F1 H1 (ok.g.trans g1) (ok.g.h.free hp) hf h1 r1
theorem sd_retO (i : Nat) (hi : Γ[i]? = some (.ow ds)) : Sd K E (tRet (tVar i)) Γ (.rw ds) := fun F0 H0 F H σ De ok fin => by
  obtain ⟨p, ho, a, b, c, e, r, _⟩ := ok.ow i _ hi
  cases r with
  | lst r => exact ⟨_, a, fin p _ F H ok.g e c b r⟩
theorem sd_drop (h : Ed K te Γ d) : Sd K E (tDrop te) Γ (.nx Γ) := fun F0 H0 F H σ De ok fin => h F0 H0 F H σ ok _ fun v F1 H1 g1 r1 => fin F1 H1 σ g1.f (ok.grow g1)
theorem sd_retN : Sd K E tRetN Γ (.rt .non) := fun F0 H0 F H σ De ok fin => fin _ F H ok.g .non
theorem sd_cont : Sd K E tCont Γ (.lp Γ) := fun F0 H0 F H σ De ok fin => fin.2 F H σ (Same.refl F) ok
/-- raises -/
theorem sd_retX (h : Xd K E te Γ C) : Sd K E (tRet te) Γ (.ex C) := fun F0 H0 F H σ De ok fin => h F0 H0 F H σ ok (fun F1 H1 g1 => fin F1 H1 (ok.g.trans g1)) _
theorem sd_setX (h : Xd K E te Γ C) : Sd K E (tAsg te g) Γ (.ex C) := fun F0 H0 F H σ De ok fin => h F0 H0 F H σ ok (fun F1 H1 g1 => fin F1 H1 (ok.g.trans g1)) _
theorem sd_dropX (h : Xd K E te Γ C) : Sd K E (tDrop te) Γ (.ex C) := fun F0 H0 F H σ De ok fin => h F0 H0 F H σ ok (fun F1 H1 g1 => fin F1 H1 (ok.g.trans g1)) _
theorem sd_raise : Sd K E (fun _ σ H => (fun _ H' (Q : XK) => Q (.ref C) none H') σ H fun cls d H' => E cls d H') Γ (.ex C) := fun F0 H0 F H σ De ok fin => fin F H ok.g
theorem xa_head (h : Xd K E ta Γ C) : Xa K E (tCons ta tr) Γ C := fun F0 H0 F H σ ok fin Q => h F0 H0 F H σ ok fin _
theorem xa_tail (h : Ed K ta Γ d) (hr : Xa K E tr Γ C) : Xa K E (tCons ta tr) Γ C := fun F0 H0 F H σ ok fin Q => h F0 H0 F H σ ok _ fun v F1 H1 g1 r1 => hr F0 H0 F1 H1 σ (ok.grow g1) (fun F2 H2 g2 => fin F2 H2 (g1.trans g2)) _
theorem xd_tup (h : Xa K E tas Γ C) : Xd K E (tTup tas) Γ C := fun F0 H0 F H σ ok fin Q => h F0 H0 F H σ ok fin _
theorem xd_lst (h : Xa K E tas Γ C) : Xd K E (tLst tas) Γ C := fun F0 H0 F H σ ok fin Q => h F0 H0 F H σ ok fin _
theorem xd_opL {r : R2} (h : Xd K E ta Γ C) : Xd K E (tOp r ta tb) Γ C := fun F0 H0 F H σ ok fin Q => h F0 H0 F H σ ok fin _
theorem xd_opR {r : R2} (h1 : Ed K ta Γ d) (h : Xd K E tb Γ C) : Xd K E (tOp r ta tb) Γ C := fun F0 H0 F H σ ok fin Q => h1 F0 H0 F H σ ok _ fun v F1 H1 g1 r1 => h F0 H0 F1 H1 σ (ok.grow g1) (fun F2 H2 g2 => fin F2 H2 (g1.trans g2)) _
/-- owned lists -/
theorem sd_setW (i : Nat) (h : Ew K te Γ ds) : Sd K E (tAsg te (gName i)) Γ (.nx (Γ.set i (.ow ds))) := fun F0 H0 F H σ De ok fin => h F0 H0 F H σ ok _ fun p vs F1 H1 g1 hp hf h1 r1 => by
  refine fin F1 H1 _ g1.f ?_
  have ok1 := ok.grow g1
  have h0 : H0 p = none := ok.g.h.free hp
  have old : ∀ (j : Nat) (es : Ow) (q : Addr), Γ[j]? = some (.own es) → σ[j]? = some (some (.ref q)) → q ≠ p := fun j es q a b => by
    obtain ⟨q', ws, a', b', _⟩ := ok.ow j es a
    rw [b] at a'
    cases a'
    exact ne_of_none b' hp
  refine ⟨ok1.g, by simpa using ok.len, fun j e h => ?_, fun j es h => ?_, fun j k es fs q hjk h1 h2 h3 h4 => ?_⟩
  · rcases set_get h with ⟨rfl, q⟩ | ⟨n, q⟩
    · cases q
    · rw [List.getElem?_set_ne n]
      exact ok1.fz j e q
  · rcases set_get h with ⟨rfl, q⟩ | ⟨n, q⟩
    · cases q
      exact ⟨p, _, set_at ok.len h, h1, hf, h0, .lst r1, trivial⟩
    · rw [List.getElem?_set_ne n]
      exact ok1.ow j es q
  · rcases set_get h1 with ⟨e1, x1⟩ | ⟨n1, q1⟩
    · subst e1
      rw [set_at ok.len h1] at h3
      cases h3
      rcases set_get h2 with ⟨e2, _⟩ | ⟨n2, q2⟩
      · exact hjk e2
      · rw [List.getElem?_set_ne n2] at h4
        exact old k fs p q2 h4 rfl
    · rw [List.getElem?_set_ne n1] at h3
      rcases set_get h2 with ⟨e2, x2⟩ | ⟨n2, q2⟩
      · subst e2
        rw [set_at ok.len h2] at h4
        cases h4
        exact old j es p q1 h3 rfl
      · rw [List.getElem?_set_ne n2] at h4
        exact ok.ap j k es fs q hjk q1 q2 h3 h4
theorem sd_freeze (i : Nat) {ow : Ow} (hi : Γ[i]? = some (.own ow)) (h : Sd K E ts (Γ.set i (.fz ow.toD)) o) : Sd K E ts Γ o := fun F0 H0 F H σ De ok fin => by
  obtain ⟨F', g, sf, ok', _⟩ := ok.freeze hi
  exact h F0 H0 F' H σ De ok' (fin.mono sf)
theorem tyV_list {H : Hp} {p : Addr} {vs : List V} (h : H p = some (.lst vs)) : tyV K "list" (.ref p) H := .inl ⟨rfl, vs, .inl (.inl h)⟩
theorem sd_app (i : Nat) (hi : Γ[i]? = some (.ow ds)) (h : Ed K te Γ d) (hl : ds.length < 100000) : Sd K E (tDrop (tBM K "list" rAppend (tVar i) (tCons te tNil))) Γ (.nx (Γ.set i (.ow (ds ++ [d])))) := fun F0 H0 F H σ De ok fin => by
  obtain ⟨p, ho, a, b, c, e, r, _⟩ := ok.ow i (.lst ds) hi
  obtain ⟨vs, rfl, r'⟩ : ∃ vs, ho = .lst vs ∧ RpA K F vs ds := by
    cases r with
    | lst r => exact ⟨_, rfl, r⟩
  replace r := r'
  refine ⟨.ref p, a, tyV_list b, ?_⟩
  refine h F0 H0 F H σ ok _ fun v F1 H1 g1 r1 => ?_
  obtain ⟨c1, b1⟩ := g1.out c b
  refine ⟨p, vs, v, rfl, rfl, b1, Nat.lt_of_lt_of_le (by rw [r.len]; exact hl) (by decide), ?_⟩
  exact fin F1 _ σ g1.f ((ok.grow g1).upOw hi a (.lst ((r.mono g1.f).append (.one r1))) trivial)
theorem sd_ext (i : Nat) (hi : Γ[i]? = some (.ow ds)) (h : Ed K te Γ (.lst es)) (hl : ds.length + es.length ≤ 100000) : Sd K E (tDrop (tBM K "list" rExtend (tVar i) (tCons te tNil))) Γ (.nx (Γ.set i (.ow (ds ++ es)))) := fun F0 H0 F H σ De ok fin => by
  obtain ⟨p, ho, a, b, c, e, r, _⟩ := ok.ow i (.lst ds) hi
  obtain ⟨vs, rfl, r'⟩ : ∃ vs, ho = .lst vs ∧ RpA K F vs ds := by
    cases r with
    | lst r => exact ⟨_, rfl, r⟩
  replace r := r'
  refine ⟨.ref p, a, tyV_list b, ?_⟩
  refine h F0 H0 F H σ ok _ fun v F1 H1 g1 r1 => ?_
  obtain ⟨c1, b1⟩ := g1.out c b
  cases r1 with
  | @lst q ws _ hq rq =>
    refine ⟨p, q, vs, ws, rfl, rfl, b1, g1.s _ _ hq, Nat.le_trans (by rw [r.len, rq.len]; exact hl) (by decide), ?_⟩
    exact fin F1 _ σ g1.f ((ok.grow g1).upOw hi a (.lst ((r.mono g1.f).append rq)) trivial)
/-- while -/
inductive LoopW (K : PySem.W.Frag) (E : XK) (t : TT) (ts : TS) : Nat → Gam → Oc → Prop
  | done {Γ : Gam} : Et K t Γ false → LoopW K E t ts 0 Γ (.nx Γ)
  | step {n : Nat} {Γ Γ1 : Gam} {o : Oc} : Et K t Γ true → Sd K E ts Γ (.lp Γ1) → LoopW K E t ts n Γ1 o → LoopW K E t ts (n + 1) Γ o
  | out {Γ : Gam} {o : Oc} : Et K t Γ true → Sd K E ts Γ o → o.out = true → LoopW K E t ts 1 Γ o
theorem sd_while {n : Nat} (h : LoopW K E t ts n Γ o) : Sd K E (tWhile t ts) Γ o := fun F0 H0 F H σ De ok fin =>
  ⟨fun m σ H => ∃ Γ F', LoopW K E t ts m Γ o ∧ Same F F' ∧ Ok K F0 H0 F' H σ Γ, ⟨n, Γ, F, h, Same.refl F, ok⟩, fun m σ1 H1 ⟨Γ1, F1, l, s1, ok1⟩ => by
    cases l with
    | done ht => exact ht F0 H0 F1 H1 σ1 ok1 _ fun F2 H2 g2 => fin F2 H2 σ1 (s1.trans g2.f) (ok1.grow g2)
    | @step k _ Γ2 _ ht hs hl =>
      refine ht F0 H0 F1 H1 σ1 ok1 _ fun F2 H2 g2 => ?_
      refine ⟨fun σ H => ∃ F', Same F F' ∧ Ok K F0 H0 F' H σ Γ2, fun σ' H' ⟨F', s', ok'⟩ => ⟨k, Nat.lt_succ_self k, Γ2, F', hl, s', ok'⟩, ?_⟩
      exact hs F0 H0 F2 H2 σ1 _ (ok1.grow g2) ⟨fun F3 H3 σ3 e3 ok3 => ⟨F3, (s1.trans g2.f).trans e3, ok3⟩, fun F3 H3 σ3 e3 ok3 => ⟨F3, (s1.trans g2.f).trans e3, ok3⟩⟩
    | out ht hs ho =>
      refine ht F0 H0 F1 H1 σ1 ok1 _ fun F2 H2 g2 => ?_
      exact ⟨fun _ _ => False, fun _ _ z => z.elim, hs F0 H0 F2 H2 σ1 _ (ok1.grow g2) (fin.out ho rfl)⟩⟩
/-- what a for walks -/
structure Wk (K : PySem.W.Frag) (J : It) (F : Hp) (ds : List D) : Prop where
  go : ∀ i F2 H2, Same F F2 → Same F2 H2 → i < ds.length → J.go i H2
  st : ∀ F2 H2, Same F F2 → Same F2 H2 → J.stop ds.length H2
  yl : ∀ i x F2 H2 H3, Same F F2 → Same F2 H2 → i < ds.length → J.yld i H2 x H3 → ∃ F3 d, Gr F2 H2 F3 H3 ∧ ds[i]? = some d ∧ Rp K F3 x d
def Ei (K : PySem.W.Frag) (wi : TI) (Γ : Gam) (ds : List D) : Prop := ∀ (F0 H0 F H : Hp) (σ : L2.St), Ok K F0 H0 F H σ Γ → ∀ R : It → Hp → Prop, (∀ J F1 H1, Gr F H F1 H1 → Wk K J F1 ds → R J H1) → wi σ H R
theorem Wk.mono {J : It} {F F' : Hp} (w : Wk K J F ds) (e : Same F F') : Wk K J F' ds :=
  ⟨fun i F2 H2 a b c => w.go i F2 H2 (e.trans a) b c, fun F2 H2 a b => w.st F2 H2 (e.trans a) b, fun i x F2 H2 H3 a b c d => w.yl i x F2 H2 H3 (e.trans a) b c d⟩
inductive LoopF (K : PySem.W.Frag) (E : XK) (g : TG) (ts : TS) : List D → Gam → Oc → Prop
  | done {Γ : Gam} : LoopF K E g ts [] Γ (.nx Γ)
  | step {Γ Γ1 Γ2 : Gam} {js : List Nat} {d : D} {ds : List D} {o : Oc} : Eg K g js d Γ Γ1 → Sd K E ts Γ1 (.lp Γ2) → LoopF K E g ts ds Γ2 o → LoopF K E g ts (d :: ds) Γ o
  | out {Γ Γ1 : Gam} {js : List Nat} {d : D} {ds : List D} {o : Oc} : Eg K g js d Γ Γ1 → Sd K E ts Γ1 o → o.out = true → LoopF K E g ts (d :: ds) Γ o
  | le {Γ Γ1 : Gam} {ds : List D} {o : Oc} : Le Γ Γ1 → LoopF K E g ts ds Γ1 o → LoopF K E g ts ds Γ o
theorem LoopF.turn {F0 H0 F H : Hp} {σ : L2.St} {o : Oc} {ds : List D} {Γ : Gam} (l : LoopF K E g ts ds Γ o) : Ok K F0 H0 F H σ Γ →
    (ds = [] ∧ ∃ Γ1, o = .nx Γ1 ∧ Ok K F0 H0 F H σ Γ1) ∨ (∃ d r Γ0 Γ1 Γ2 js, ds = d :: r ∧ Ok K F0 H0 F H σ Γ0 ∧ Eg K g js d Γ0 Γ1 ∧ Sd K E ts Γ1 (.lp Γ2) ∧ LoopF K E g ts r Γ2 o) ∨ (∃ d r Γ0 Γ1 js, ds = d :: r ∧ Ok K F0 H0 F H σ Γ0 ∧ Eg K g js d Γ0 Γ1 ∧ Sd K E ts Γ1 o ∧ o.out = true) := by
  induction l with
  | done => exact fun ok => .inl ⟨rfl, _, rfl, ok⟩
  | step a b c _ => exact fun ok => .inr (.inl ⟨_, _, _, _, _, _, rfl, ok, a, b, c⟩)
  | out a b c => exact fun ok => .inr (.inr ⟨_, _, _, _, _, rfl, ok, a, b, c⟩)
  | le l _ ih => exact fun ok => ih (ok.le l)
theorem loopF_same {Pd : D → Prop} (h : ∀ x, Pd x → ∃ js Γ1, Eg K g js x Γ Γ1 ∧ Sd K E ts Γ1 (.lp Γ)) : ∀ ds : List D, (∀ x ∈ ds, Pd x) → LoopF K E g ts ds Γ (.nx Γ)
  | [], _ => .done
  | d :: ds, hd => by
    obtain ⟨js, Γ1, a, b⟩ := h d (hd d List.mem_cons_self)
    exact .step a b (loopF_same h ds fun x hx => hd x (List.mem_cons_of_mem _ hx))
theorem sd_for {wi : TI} (hw : Ei K wi Γ ds) (h : LoopF K E g ts ds Γ o) : Sd K E (tFor wi g ts) Γ o := fun F0 H0 F H σ De ok fin =>
  hw F0 H0 F H σ ok _ fun J F1 H1 g1 wk =>
    ⟨fun i m σ H => ∃ Γ F, m = ds.length - i ∧ i ≤ ds.length ∧ LoopF K E g ts (ds.drop i) Γ o ∧ Same F1 F ∧ Ok K F0 H0 F H σ Γ, ⟨ds.length, Γ, F1, rfl, Nat.zero_le _, h, Same.refl _, ok.grow g1⟩, by
      rintro i m σ2 H2 ⟨Γ2, F2, rfl, hi, l, s2, ok2⟩
      have out : ∀ {d : D} {r : List D}, ds.drop i = d :: r → i < ds.length ∧ ds[i]? = some d ∧ ds.drop (i + 1) = r := fun {d r} e => by
        have hlt : i < ds.length := by
          rcases Nat.lt_or_ge i ds.length with z | z
          · exact z
          · rw [List.drop_of_length_le z] at e
            cases e
        rw [List.drop_eq_getElem_cons hlt] at e
        cases e
        exact ⟨hlt, List.getElem?_eq_getElem hlt, rfl⟩
      rcases l.turn ok2 with ⟨e, Γ3, rfl, ok3⟩ | ⟨d, r, Γ0, Γ3, Γ4, js, e, ok3, hg, hs, hl⟩ | ⟨d, r, Γ0, Γ3, js, e, ok3, hg, hs, ho⟩
      · have hn : i = ds.length := by
          have z := congrArg List.length e
          rw [List.length_drop] at z
          simp only [List.length_nil] at z
          omega
        subst hn
        exact .inl ⟨wk.st F2 H2 s2 ok2.g.s, fin F2 H2 σ2 (g1.f.trans s2) ok3⟩
      · obtain ⟨hlt, hd, hr⟩ := out e
        refine .inr ⟨wk.go i F2 H2 s2 ok2.g.s hlt, fun σ H => ∃ F, Same F1 F ∧ Ok K F0 H0 F H σ Γ4, fun σ' H' ⟨F', a, b⟩ => ⟨ds.length - (i + 1), by omega, Γ4, F', rfl, by omega, by rw [hr]; exact hl, a, b⟩, fun x H3 hy => ?_⟩
        obtain ⟨F3, d', g3, hd', rx⟩ := wk.yl i x F2 H2 H3 s2 ok2.g.s hlt hy
        rw [hd] at hd'
        cases hd'
        refine hg F0 H0 F3 H3 σ2 x (ok3.grow g3) rx _ fun σ4 ok4 _ => ?_
        have base : Same F1 F3 := s2.trans g3.f
        exact hs F0 H0 F3 H3 σ4 _ ok4 ⟨fun F5 H5 σ5 e5 ok5 => ⟨F5, base.trans e5, ok5⟩, fun F5 H5 σ5 e5 ok5 => ⟨F5, base.trans e5, ok5⟩⟩
      · obtain ⟨hlt, hd, hr⟩ := out e
        refine .inr ⟨wk.go i F2 H2 s2 ok2.g.s hlt, fun _ _ => False, fun _ _ z => z.elim, fun x H3 hy => ?_⟩
        obtain ⟨F3, d', g3, hd', rx⟩ := wk.yl i x F2 H2 H3 s2 ok2.g.s hlt hy
        rw [hd] at hd'
        cases hd'
        refine hg F0 H0 F3 H3 σ2 x (ok3.grow g3) rx _ fun σ4 ok4 _ => ?_
        exact hs F0 H0 F3 H3 σ4 _ ok4 (fin.out ho rfl)⟩
end
end DL

namespace DL
open PySem PySem.Spec PyProof.Rows L2
section
variable {K : PySem.W.Frag} {E : XK} {Γ Γ' Γ1 Γ2 : Gam} {ta tb te tx tl : TE} {t u : TT} {d dx dy : D} {ds es : List D} {tas tr : TA} {ts tu : TS} {o : Oc} {g : TG} {gs : TGs} {js ks : List Nat} {C : Addr}
theorem et_yes : Et K tYes Γ true := fun F0 H0 F H σ ok Q q => q F H (Gr.refl ok.g.s)
/-! ### walks -/
theorem wk_list {F : Hp} {a : Addr} {xs : List V} (h : SqL K F a xs) (r : RpA K F xs ds) : Wk K (Itl K a) F ds where
  go := fun i F2 H2 e s hi => by
    obtain ⟨v, hv, _⟩ := r.get (List.getElem?_eq_getElem hi)
    exact ⟨xs, v, (e.trans s).seq h, hv⟩
  st := fun F2 H2 e s => ⟨xs, (e.trans s).seq h, Nat.le_of_eq r.len⟩
  yl := fun i x F2 H2 H3 e s hi y => by
    obtain ⟨rfl, y⟩ := y
    obtain ⟨d, hd, rd⟩ := r.getV (y xs ((e.trans s).seq h))
    exact ⟨F2, d, Gr.refl s, hd, rd.mono e⟩
theorem ei_list (h : Ed K tl Γ (.lst ds)) : Ei K (iList K tl) Γ ds := fun F0 H0 F H σ ok R k => h F0 H0 F H σ ok _ fun v F1 H1 g1 r1 => by
  cases r1 with
  | @lst a xs _ ha ra => exact ⟨a, rfl, ⟨xs, .inl (.inl (g1.s _ _ ha))⟩, k _ F1 H1 g1 (wk_list (.inl (.inl ha)) ra)⟩
theorem ei_scr {ns : List Int} (h : Ed K tl Γ (.scr ns)) : Ei K (iList K tl) Γ (ns.map .int) := fun F0 H0 F H σ ok R k => h F0 H0 F H σ ok _ fun v F1 H1 g1 r1 => by
  cases r1 with
  | @scr a _ ha => exact ⟨a, rfl, ⟨_, g1.s.seq ha⟩, k _ F1 H1 g1 (wk_list ha (.ofInts ns))⟩
theorem ei_tup (h : Ed K tl Γ (.tup ds)) : Ei K (iTup K tl) Γ ds := fun F0 H0 F H σ ok R k => h F0 H0 F H σ ok _ fun v F1 H1 g1 r1 => by
  cases r1 with
  | @tup a xs _ ha ra =>
    refine ⟨a, rfl, ⟨xs, sqt_mono g1.s ha⟩, k _ F1 H1 g1 ⟨fun i F2 H2 e s hi => ?_, fun F2 H2 e s => ⟨xs, sqt_mono (e.trans s) ha, Nat.le_of_eq ra.len⟩, fun i x F2 H2 H3 e s hi y => ?_⟩⟩
    · obtain ⟨v, hv, _⟩ := ra.get (List.getElem?_eq_getElem hi)
      exact ⟨xs, v, sqt_mono (e.trans s) ha, hv⟩
    · obtain ⟨rfl, y⟩ := y
      obtain ⟨d, hd, rd⟩ := ra.getV (y xs (sqt_mono (e.trans s) ha))
      exact ⟨F2, d, Gr.refl s, hd, rd.mono e⟩
def rg (lo : Int) (n : Nat) : List D := (List.range n).map fun i => .int (lo + (i : Nat))
theorem rg_len (lo : Int) (n : Nat) : (rg lo n).length = n := by simp [rg]
theorem wk_rng {F : Hp} {lo : Int} {n : Nat} : Wk K (Itr lo n) F (rg lo n) where
  go := fun i F2 H2 e s hi => by rw [rg_len] at hi; exact hi
  st := fun F2 H2 e s => Nat.le_of_eq (rg_len lo n).symm
  yl := fun i x F2 H2 H3 e s hi y => by
    obtain ⟨rfl, rfl⟩ := y
    rw [rg_len] at hi
    exact ⟨F2, .int (lo + (i : Nat)), Gr.refl s, by simp [rg, hi], .int _⟩
theorem ei_rng1 {n : Int} (h : Ea K tas Γ [.int n]) (hn : -(2 ^ 62) ≤ n ∧ n < 2 ^ 62) : Ei K (iRng1 tas) Γ (rg 0 n.toNat) := fun F0 H0 F H σ ok R k => h F0 H0 F H σ ok _ fun v F1 H1 g1 r1 => by
  have e := RpA.ints (ns := [n]) r1
  exact ⟨n, e, hn.1, hn.2, k _ F1 H1 g1 wk_rng⟩
theorem ei_rng2 {lo n : Int} (h : Ea K tas Γ [.int lo, .int n]) (hn : -(2 ^ 62) ≤ lo ∧ lo < 2 ^ 62 ∧ -(2 ^ 62) ≤ n ∧ n < 2 ^ 62) : Ei K (iRng2 tas) Γ (rg lo (n - lo).toNat) := fun F0 H0 F H σ ok R k => h F0 H0 F H σ ok _ fun v F1 H1 g1 r1 => by
  have e := RpA.ints (ns := [lo, n]) r1
  exact ⟨lo, n, e, hn, k _ F1 H1 g1 wk_rng⟩
def sgn (x : Str) : List D := x.cps.toList.map fun c => .str ⟨#[c]⟩
theorem ei_str {x : Str} (h : Ed K te Γ (.str x)) : Ei K (iStr te) Γ (sgn x) := fun F0 H0 F H σ ok R k => h F0 H0 F H σ ok _ fun v F1 H1 g1 r1 => by
  cases r1
  have hl : (sgn x).length = x.cps.size := by simp [sgn]
  refine ⟨x, rfl, k _ F1 H1 g1 ⟨fun i F2 H2 e s hi => by rw [hl] at hi; exact hi, fun F2 H2 e s => Nat.le_of_eq hl.symm, fun i y F2 H2 H3 e s hi z => ?_⟩⟩
  obtain ⟨rfl, c, hc, rfl⟩ := z
  refine ⟨F2, .str ⟨#[c]⟩, Gr.refl s, ?_, .str _⟩
  have hc' : x.cps.toList[i]? = some c := by rw [Array.getElem?_toList]; exact hc
  simp only [sgn, List.getElem?_map, hc', Option.map_some]
theorem pair_new {F2 H2 : Hp} {T : Addr} {x y : V} {d e : D} (s : Same F2 H2) (hT : H2 T = none) (rx : Rp K F2 x d) (ry : Rp K F2 y e) : ∃ F3, Gr F2 H2 F3 (upd H2 T (.tup [x, y])) ∧ Rp K F3 (.ref T) (.tup [d, e]) := by
  have g2 := Gr.new (o := .tup [x, y]) s hT
  exact ⟨_, g2, .tup (.inl (.inl upd_same)) (.cons (rx.mono g2.f) (.cons (ry.mono g2.f) .nil))⟩
def zp (ds es : List D) : List D := (ds.zip es).map fun p => .tup [p.1, p.2]
theorem wk_zip {F : Hp} {a b : Addr} {xs ys : List V} (h1 : SqL K F a xs) (r1 : RpA K F xs ds) (h2 : SqL K F b ys) (r2 : RpA K F ys es) : Wk K (Itz K a b) F (zp ds es) := by
  have hl : (zp ds es).length = min ds.length es.length := by simp [zp]
  refine ⟨fun i F2 H2 e s hi => ?_, fun F2 H2 e s => ⟨xs, ys, (e.trans s).seq h1, (e.trans s).seq h2, by rw [r1.len, r2.len, hl]; omega⟩, fun i x F2 H2 H3 e s hi y => ?_⟩
  · rw [hl] at hi
    obtain ⟨v, hv, _⟩ := r1.get (List.getElem?_eq_getElem (show i < ds.length by omega))
    obtain ⟨w, hw, _⟩ := r2.get (List.getElem?_eq_getElem (show i < es.length by omega))
    exact ⟨xs, ys, v, w, (e.trans s).seq h1, (e.trans s).seq h2, hv, hw⟩
  · obtain ⟨T, v, w, rfl, hT, rfl, k1, k2⟩ := y
    obtain ⟨d, hd, rd⟩ := r1.getV (k1 xs ((e.trans s).seq h1))
    obtain ⟨d', hd', rd'⟩ := r2.getV (k2 ys ((e.trans s).seq h2))
    obtain ⟨F3, g3, rp⟩ := pair_new s hT (rd.mono e) (rd'.mono e)
    refine ⟨F3, _, g3, ?_, rp⟩
    have z : (ds.zip es)[i]? = some (d, d') := by
      rw [List.getElem?_zip_eq_some]
      exact ⟨hd, hd'⟩
    simp only [zp, List.getElem?_map, z, Option.map_some]
theorem ei_zip (h : Ea K tas Γ [.lst ds, .lst es]) : Ei K (iZip K tas) Γ (zp ds es) := fun F0 H0 F H σ ok R k => h F0 H0 F H σ ok _ fun v F1 H1 g1 r1 => by
  cases r1 with
  | cons ra rr =>
    cases rr with
    | cons rb rr =>
      cases rr
      cases ra with
      | @lst a xs _ ha ra =>
        cases rb with
        | @lst b ys _ hb rb => exact ⟨a, b, xs, ys, rfl, .inl (.inl (g1.s _ _ ha)), .inl (.inl (g1.s _ _ hb)), k _ F1 H1 g1 (wk_zip (.inl (.inl ha)) ra (.inl (.inl hb)) rb)⟩
def en (ds : List D) : List D := (ds.zipIdx).map fun p => .tup [.int (p.2 : Nat), p.1]
theorem ei_enum (h : Ea K tas Γ [.lst ds]) : Ei K (iEnum K tas) Γ (en ds) := fun F0 H0 F H σ ok R k => h F0 H0 F H σ ok _ fun v F1 H1 g1 r1 => by
  cases r1 with
  | cons ra rr =>
    cases rr
    cases ra with
    | @lst a xs _ ha ra =>
      have hl : (en ds).length = ds.length := by simp [en]
      refine ⟨a, xs, rfl, .inl (.inl (g1.s _ _ ha)), k _ F1 H1 g1 ⟨fun i F2 H2 e s hi => ?_, fun F2 H2 e s => ⟨xs, .inl (.inl ((e.trans s) _ _ ha)), by rw [ra.len, hl]; exact Nat.le_refl _⟩, fun i x F2 H2 H3 e s hi y => ?_⟩⟩
      · rw [hl] at hi
        obtain ⟨v, hv, _⟩ := ra.get (List.getElem?_eq_getElem hi)
        exact ⟨xs, v, .inl (.inl ((e.trans s) _ _ ha)), hv⟩
      · obtain ⟨T, v, rfl, hT, rfl, k1⟩ := y
        obtain ⟨d, hd, rd⟩ := ra.getV (k1 xs (.inl (.inl ((e.trans s) _ _ ha))))
        obtain ⟨F3, g3, rp⟩ := pair_new (x := .int (i : Nat)) (d := .int (i : Nat)) s hT (.int _) (rd.mono e)
        refine ⟨F3, _, g3, ?_, rp⟩
        simp [en, List.getElem?_zipIdx, hd]
theorem ei_rev (h : Ea K tas Γ [.lst ds]) : Ei K (iRev K tas) Γ ds.reverse := fun F0 H0 F H σ ok R k => h F0 H0 F H σ ok _ fun v F1 H1 g1 r1 => by
  cases r1 with
  | cons ra rr =>
    cases rr
    cases ra with
    | @lst a xs _ ha ra =>
      have w := @walk_rev K a xs
      refine ⟨a, xs, rfl, .inl (.inl (g1.s _ _ ha)), k _ F1 H1 g1 ⟨fun i F2 H2 e s hi => w.goes i H2 (by rw [ra.len]; simpa using hi) (.inl (.inl ((e.trans s) _ _ ha))), fun F2 H2 e s => ?_, fun i x F2 H2 H3 e s hi y => ?_⟩⟩
      · have z := w.stops H2 (.inl (.inl ((e.trans s) _ _ ha)))
        rw [ra.len] at z
        rw [List.length_reverse]
        rw [ra.len]
        exact z
      · have hi' : i < xs.length := by rw [ra.len]; simpa using hi
        obtain ⟨rfl, q⟩ := w.yields i H2 x H3 hi' (.inl (.inl ((e.trans s) _ _ ha))) y
        obtain ⟨d, hd, rd⟩ := ra.getV q
        refine ⟨F2, d, Gr.refl s, ?_, rd.mono e⟩
        rw [List.getElem?_reverse (by simpa using hi)]
        rw [← ra.len]
        exact hd
/-! ### comprehensions -/
theorem ew_lc {α : Type} {wi : TI} {vs : List Nat} (xs : List α) (enc : α → D) (b : α → Bool) (f : α → D) (hw : Ei K wi Γ (xs.map enc)) (hl : xs.length ≤ 100000)
    (h : ∀ x ∈ xs, ∃ js Γ1, Eg K g js (enc x) (wipeG Γ vs) Γ1 ∧ (∀ j ∈ js, j ∈ vs) ∧ Et K t Γ1 (b x) ∧ (b x = true → Ed K te Γ1 (f x))) : Ew K (tLc wi g t te vs) Γ ((xs.filter b).map f) := fun F0 H0 F H σ ok Q q =>
  hw F0 H0 F H σ ok _ fun J F1 H1 g1 wk D hD => by
    have hDH : H D = none := g1.h.free hD
    have hDF : F1 D = none := g1.s.free hD
    have set : ∀ {F' H' : Hp} {ws : List V}, Gr F H F' H' → F' D = none → Gr F H F' (upd H' D (.lst ws)) := fun {F' H' ws} g hf =>
      ⟨g.f, fun x y e => by rw [upd_ne (ne_of_none e hf)]; exact g.s x y e, fun x y e => by rw [upd_ne (ne_of_none e hDH)]; exact g.h x y e, g.n⟩
    let St := fun (i : Nat) (H' : Hp) => ∃ F' acc, i ≤ xs.length ∧ Same F1 F' ∧ Gr F H F' H' ∧ F' D = none ∧ H' D = some (.lst acc) ∧ RpA K F' acc (((xs.take i).filter b).map f)
    refine ⟨fun i m H' => m = xs.length - i ∧ St i H', ⟨xs.length, rfl, F1, [], Nat.zero_le _, Same.refl _, set g1 hDF, hDF, upd_same, .nil⟩, ?_⟩
    rintro i m H2 ⟨rfl, F2, acc, hi, s2, g2, f2, e2, r2⟩
    have lenx : (xs.map enc).length = xs.length := List.length_map _
    by_cases hlt : i < xs.length
    · refine .inr ⟨wk.go i F2 H2 s2 g2.s (by rw [lenx]; exact hlt), St (i + 1), fun H' z => ⟨xs.length - (i + 1), by omega, rfl, z⟩, fun x H3 hy => ?_⟩
      obtain ⟨F3, d, g3, hd, rx⟩ := wk.yl i x F2 H2 H3 s2 g2.s (by rw [lenx]; exact hlt) hy
      have hx : xs[i]? = some xs[i] := List.getElem?_eq_getElem hlt
      rw [List.getElem?_map, hx] at hd
      cases hd
      obtain ⟨js, Γ1, hg, hj, ht, he⟩ := h xs[i] (List.getElem_mem hlt)
      have g03 := g2.trans g3
      have f3 : F3 D = none ∧ H3 D = some (.lst acc) := g3.out f2 e2
      refine hg F0 H0 F3 H3 _ x ((ok.grow g03).wipe vs) rx _ fun σ4 ok4 wp => ⟨(wp vs hj).trans (wipe_wipe σ vs), ?_⟩
      refine ht F0 H0 F3 H3 σ4 ok4 _ fun F4 H4 g4 => ?_
      have f4 := g4.out f3.1 f3.2
      have tk : xs.take (i + 1) = xs.take i ++ [xs[i]] := by rw [List.take_add_one, hx]; rfl
      cases hb : b xs[i] with
      | true =>
        rw [if_pos rfl]
        refine he hb F0 H0 F4 H4 σ4 (ok4.grow g4) _ fun v F5 H5 g5 r5 => ?_
        have f5 := g5.out f4.1 f4.2
        have gg := (g03.trans g4).trans g5
        refine ⟨acc, f5.2, ?_, F5, acc ++ [v], by omega, ((s2.trans g3.f).trans g4.f).trans g5.f, set gg f5.1, f5.1, upd_same, ?_⟩
        · have z := r2.len
          rw [List.length_map] at z
          have z2 := List.length_filter_le b (xs.take i)
          rw [List.length_take] at z2
          have z3 : acc.length < 100000 := by omega
          exact Nat.lt_of_lt_of_le z3 (by decide)
        · have e : ((xs.take (i + 1)).filter b).map f = ((xs.take i).filter b).map f ++ [f xs[i]] := by
            rw [tk, List.filter_append, List.map_append, List.filter_cons, if_pos hb] <;> rfl
          rw [e]
          exact (r2.mono ((g3.f.trans g4.f).trans g5.f)).append (.one r5)
      | false =>
        rw [if_neg (by decide)]
        have gg := g03.trans g4
        refine ⟨F4, acc, by omega, (s2.trans g3.f).trans g4.f, gg, f4.1, f4.2, ?_⟩
        have e : ((xs.take (i + 1)).filter b).map f = ((xs.take i).filter b).map f := by
          rw [tk, List.filter_append, List.map_append, List.filter_cons, if_neg (by rw [hb]; decide)]
          simp
        rw [e]
        exact r2.mono (g3.f.trans g4.f)
    · have e : i = xs.length := by omega
      subst e
      refine .inl ⟨by have z := wk.st F2 H2 s2 g2.s; rw [lenx] at z; exact z, ?_⟩
      rw [List.take_length] at r2
      exact q D acc F2 H2 g2 hDH f2 e2 r2
theorem filter_all {α : Type} (xs : List α) : xs.filter (fun _ => true) = xs := by simp
theorem ew_map {α : Type} {wi : TI} {vs : List Nat} (xs : List α) (enc : α → D) (f : α → D) (hw : Ei K wi Γ (xs.map enc)) (hl : xs.length ≤ 100000)
    (h : ∀ x ∈ xs, ∃ js Γ1, Eg K g js (enc x) (wipeG Γ vs) Γ1 ∧ (∀ j ∈ js, j ∈ vs) ∧ Ed K te Γ1 (f x)) : Ew K (tLc wi g tYes te vs) Γ (xs.map f) := by
  have z := ew_lc (K := K) (Γ := Γ) (g := g) (t := tYes) (te := te) (vs := vs) xs enc (fun _ => true) f hw hl fun x hx => by
    obtain ⟨js, Γ1, a, b, c⟩ := h x hx
    exact ⟨js, Γ1, a, b, et_yes, fun _ => c⟩
  rw [filter_all] at z
  exact z
theorem ed_map {α : Type} {wi : TI} {vs : List Nat} (xs : List α) (enc : α → D) (f : α → D) (hw : Ei K wi Γ (xs.map enc)) (hl : xs.length ≤ 100000)
    (h : ∀ x ∈ xs, ∃ js Γ1, Eg K g js (enc x) (wipeG Γ vs) Γ1 ∧ (∀ j ∈ js, j ∈ vs) ∧ Ed K te Γ1 (f x)) : Ed K (tLc wi g tYes te vs) Γ (.lst (xs.map f)) := ed_ow (ew_map xs enc f hw hl h)
theorem ed_lc {α : Type} {wi : TI} {vs : List Nat} (xs : List α) (enc : α → D) (b : α → Bool) (f : α → D) (hw : Ei K wi Γ (xs.map enc)) (hl : xs.length ≤ 100000)
    (h : ∀ x ∈ xs, ∃ js Γ1, Eg K g js (enc x) (wipeG Γ vs) Γ1 ∧ (∀ j ∈ js, j ∈ vs) ∧ Et K t Γ1 (b x) ∧ (b x = true → Ed K te Γ1 (f x))) : Ed K (tLc wi g t te vs) Γ (.lst ((xs.filter b).map f)) := ed_ow (ew_lc xs enc b f hw hl h)
end
/-! ### promises -/
def spR (K : PySem.W.Frag) (S : List D → D → Prop) : Sp := fun vs H Q _ => ∃ F ds d, Same F H ∧ RpA K F vs ds ∧ S ds d ∧ ∀ v F' H', Gr F H F' H' → Rp K F' v d → Q v H'
def spX (K : PySem.W.Frag) (S : List D → D → Prop) (T : List D → Addr → Prop) : Sp := fun vs H Q E => ∃ F ds, Same F H ∧ RpA K F vs ds ∧
  ((∃ d, S ds d ∧ ∀ v F' H', Gr F H F' H' → Rp K F' v d → Q v H') ∨ (∃ C, T ds C ∧ ∀ F' H', Gr F H F' H' → E (.ref C) none H'))
section
variable {K : PySem.W.Frag} {E : XK} {Γ : Gam} {d : D} {ds : List D} {tas : TA} {S : List D → D → Prop} {T : List D → Addr → Prop} {C : Addr}
theorem ed_call {E' : XK} (h : Ea K tas Γ ds) (hs : S ds d) : Ed K (tCall (spR K S) [] E' tas) Γ d := fun F0 H0 F H σ ok Q q => h F0 H0 F H σ ok _ fun vs F1 H1 g1 r1 =>
  ⟨F1, ds, d, g1.s, by rw [List.append_nil]; exact r1, hs, fun v F2 H2 g2 r2 => q v F2 H2 (g1.trans g2) r2⟩
theorem ed_callX {E' : XK} (h : Ea K tas Γ ds) (hs : S ds d) : Ed K (tCall (spX K S T) [] E' tas) Γ d := fun F0 H0 F H σ ok Q q => h F0 H0 F H σ ok _ fun vs F1 H1 g1 r1 =>
  ⟨F1, ds, g1.s, by rw [List.append_nil]; exact r1, .inl ⟨d, hs, fun v F2 H2 g2 r2 => q v F2 H2 (g1.trans g2) r2⟩⟩
theorem xd_callX (h : Ea K tas Γ ds) (hs : T ds C) : Xd K E (tCall (spX K S T) [] E tas) Γ C := fun F0 H0 F H σ ok fin Q => h F0 H0 F H σ ok _ fun vs F1 H1 g1 r1 =>
  ⟨F1, ds, g1.s, by rw [List.append_nil]; exact r1, .inr ⟨C, hs, fun F2 H2 g2 => fin F2 H2 (g1.trans g2)⟩⟩
theorem xd_callA {sp : Sp} (h : Xa K E tas Γ C) {E' : XK} : Xd K E (tCall sp [] E' tas) Γ C := fun F0 H0 F H σ ok fin Q => h F0 H0 F H σ ok fin _
end
/-- .. the result a new list that nobody else holds -/
def spW (K : PySem.W.Frag) (S : List D → List D → Prop) : Sp := fun vs H Q _ => ∃ F ds es, Same F H ∧ RpA K F vs ds ∧ S ds es ∧ ∀ p ws F' H', Gr F H F' H' → H p = none → F' p = none → H' p = some (.lst ws) → RpA K F' ws es → Q (.ref p) H'
def spXW (K : PySem.W.Frag) (S : List D → List D → Prop) (T : List D → Addr → Prop) : Sp := fun vs H Q E => ∃ F ds, Same F H ∧ RpA K F vs ds ∧
  ((∃ es, S ds es ∧ ∀ p ws F' H', Gr F H F' H' → H p = none → F' p = none → H' p = some (.lst ws) → RpA K F' ws es → Q (.ref p) H') ∨ (∃ C, T ds C ∧ ∀ F' H', Gr F H F' H' → E (.ref C) none H'))
section
variable {K : PySem.W.Frag} {E : XK} {Γ : Gam} {ds es : List D} {tas : TA} {S : List D → List D → Prop} {T : List D → Addr → Prop} {C : Addr}
theorem ew_call {E' : XK} (h : Ea K tas Γ ds) (hs : S ds es) : Ew K (tCall (spW K S) [] E' tas) Γ es := fun F0 H0 F H σ ok Q q => h F0 H0 F H σ ok _ fun vs F1 H1 g1 r1 =>
  ⟨F1, ds, es, g1.s, by rw [List.append_nil]; exact r1, hs, fun p ws F2 H2 g2 hp hf h2 r2 => q p ws F2 H2 (g1.trans g2) (g1.h.free hp) hf h2 r2⟩
theorem ew_callX {E' : XK} (h : Ea K tas Γ ds) (hs : S ds es) : Ew K (tCall (spXW K S T) [] E' tas) Γ es := fun F0 H0 F H σ ok Q q => h F0 H0 F H σ ok _ fun vs F1 H1 g1 r1 =>
  ⟨F1, ds, g1.s, by rw [List.append_nil]; exact r1, .inl ⟨es, hs, fun p ws F2 H2 g2 hp hf h2 r2 => q p ws F2 H2 (g1.trans g2) (g1.h.free hp) hf h2 r2⟩⟩
theorem xd_callXW (h : Ea K tas Γ ds) (hs : T ds C) : Xd K E (tCall (spXW K S T) [] E tas) Γ C := fun F0 H0 F H σ ok fin Q => h F0 H0 F H σ ok _ fun vs F1 H1 g1 r1 =>
  ⟨F1, ds, g1.s, by rw [List.append_nil]; exact r1, .inr ⟨C, hs, fun F2 H2 g2 => fin F2 H2 (g1.trans g2)⟩⟩
end
def startG (N : List Str) (ds : List D) : Gam := ds.map .fz ++ List.replicate (N.length - ds.length) .no
section
variable {K : PySem.W.Frag} {E : XK} {d : D} {ds : List D} {N : List Str} {F H : Hp} {vs : List V} {ts : TS} {Q : VK}
theorem ok_start (e : Same F H) (r : RpA K F vs ds) : Ok K F H F H (L2.start N vs) (startG N ds) := by
  have hl := r.len
  have noOw : ∀ (i : Nat) (es : Ow), ¬ (startG N ds)[i]? = some (.own es) := fun i es h => by
    unfold startG at h
    rw [List.getElem?_append] at h
    split at h
    · rw [List.getElem?_map] at h
      cases q : ds[i]? with
      | none => rw [q] at h; cases h
      | some x => rw [q] at h; cases h
    · rw [List.getElem?_replicate] at h
      split at h <;> cases h
  refine ⟨Gr.refl e, ?_, fun i d h => ?_, fun i es h => absurd h (noOw i es), fun i j es fs p hij h1 h2 => absurd h1 (noOw i es)⟩
  · unfold startG L2.start
    simp only [List.length_append, List.length_map, List.length_replicate, hl]
  · unfold startG at h
    rw [List.getElem?_append] at h
    split at h
    · rename_i hi
      rw [List.length_map] at hi
      rw [List.getElem?_map] at h
      cases q : ds[i]? with
      | none => rw [q] at h; cases h
      | some x =>
        rw [q] at h
        cases h
        obtain ⟨v, hv, rv⟩ := r.get q
        refine ⟨v, ?_, rv⟩
        unfold L2.start
        rw [List.getElem?_append_left (by rw [List.length_map, hl]; exact hi), List.getElem?_map, hv]
        rfl
    · rw [List.getElem?_replicate] at h
      split at h <;> cases h
theorem run_rt (h : Sd K E ts (startG N ds) (.rt d)) (e : Same F H) (r : RpA K F vs ds) (q : ∀ v F' H', Gr F H F' H' → Rp K F' v d → Q v H') : ts { nx := fun _ H' => Q .non H', rt := Q } (L2.start N vs) H :=
  h F H F H _ _ (ok_start e r) fun v F' H' g1 r1 => q v F' H' g1 r1
theorem run_rw {es : List D} (h : Sd K E ts (startG N ds) (.rw es)) (e : Same F H) (r : RpA K F vs ds) (q : ∀ p ws F' H', Gr F H F' H' → H p = none → F' p = none → H' p = some (.lst ws) → RpA K F' ws es → Q (.ref p) H') : ts { nx := fun _ H' => Q .non H', rt := Q } (L2.start N vs) H :=
  h F H F H _ _ (ok_start e r) q
theorem run_nx {Γ : Gam} (h : Sd K E ts (startG N ds) (.nx Γ)) (e : Same F H) (r : RpA K F vs ds) (q : ∀ v F' H', Gr F H F' H' → Rp K F' v .non → Q v H') : ts { nx := fun _ H' => Q .non H', rt := Q } (L2.start N vs) H :=
  h F H F H _ _ (ok_start e r) fun F' H' σ' _ ok => q _ F' H' ok.g .non
theorem run_ex {C : Addr} (h : Sd K E ts (startG N ds) (.ex C)) (e : Same F H) (r : RpA K F vs ds) (q : ∀ F' H', Gr F H F' H' → E (.ref C) none H') : ts { nx := fun _ H' => Q .non H', rt := Q } (L2.start N vs) H :=
  h F H F H _ _ (ok_start e r) q
end
section
variable {P : Program} {w : World} {K : PySem.W.Frag} {mg : Str → Option Value} {base : Heap} {x qual : Str} {st : Stmt} {f : Addr} {fd : FuncData} {N ps : List Str} {k : Nat} {S : List D → D → Prop} {T : List D → Addr → Prop}
/-- a def that returns -/
theorem fnR (F : Fun K x qual st f fd) (sc : FnScope N ps (defScope st)) (len : ∀ ds d, S ds d → ds.length = ps.length)
    (body : ∀ (cdv : Value) (A : Around) (outer : List Env) (s : Shared) (H : Hp) (E : XK), Room k (A.deeper (envOfC qual (defScope st) s.heap.objs.size f cdv)) →
      ∃ t, PSs (cxOf CX0 P w K mg base N qual (defScope st) f cdv A outer s H E).nox (defBody st) t ∧ ∀ ds d, S ds d → Sd K E0 t (startG N ds) (.rt d)) : FnOk P w K mg base CX0 (k + 1) f fd ps (spR K S) :=
  F.ok sc (fun vs H Q E h => by
    obtain ⟨F', ds, d, e, r, hs, q⟩ := h
    rw [r.len]
    exact len ds d hs) fun cdv A outer s H vs Q E hr h => by
    obtain ⟨F', ds, d, e, r, hs, q⟩ := h
    obtain ⟨t, ht, hd⟩ := body cdv A outer s H E hr
    exact ⟨t, ht, run_rt (hd ds d hs) e r q⟩
/-- a def that may raise -/
theorem fnX (F : Fun K x qual st f fd) (sc : FnScope N ps (defScope st)) (len : ∀ ds d, S ds d → ds.length = ps.length) (len2 : ∀ ds C, T ds C → ds.length = ps.length)
    (body : ∀ (cdv : Value) (A : Around) (outer : List Env) (s : Shared) (H : Hp) (E : XK), Room k (A.deeper (envOfC qual (defScope st) s.heap.objs.size f cdv)) →
      ∃ t, PSs (cxOf (L2.CX P w) P w K mg base N qual (defScope st) f cdv A outer s H E) (defBody st) t ∧ (∀ ds d, S ds d → Sd K E t (startG N ds) (.rt d)) ∧ (∀ ds C, T ds C → Sd K E t (startG N ds) (.ex C))) : FnOk P w K mg base (L2.CX P w) (k + 1) f fd ps (spX K S T) :=
  F.okX sc (fun vs H Q E h => by
    obtain ⟨F', ds, e, r, ⟨d, hs, q⟩ | ⟨C, hs, q⟩⟩ := h
    · rw [r.len]
      exact len ds d hs
    · rw [r.len]
      exact len2 ds C hs) fun cdv A outer s H vs Q E hr h => by
    obtain ⟨F', ds, e, r, h⟩ := h
    obtain ⟨t, ht, hd, hx⟩ := body cdv A outer s H E hr
    refine ⟨t, ht, ?_⟩
    rcases h with ⟨d, hs, q⟩ | ⟨C, hs, q⟩
    · exact run_rt (hd ds d hs) e r q
    · exact run_ex (hx ds C hs) e r q
end
end DL

namespace DL
open PySem PySem.Spec PyProof.Rows L2
/-! ### operators by values -/
def CBig (i j : Int) : Prop := i.natAbs.log2 + j.natAbs.log2 < 100000000
theorem CBig.ok {i j : Int} (h : CBig i j) : IntMulOk i j := by
  have b : ∀ x : Int, Builtin.Int.intBits x ≤ x.natAbs.log2 + 1 := fun x => by
    unfold Builtin.Int.intBits
    split <;> omega
  have h1 := b i
  have h2 := b j
  have h3 : i.natAbs.log2 + j.natAbs.log2 < 100000000 := h
  have e : bitsLine = 134217728 := by decide
  unfold IntMulOk
  intro z
  rw [Bool.and_eq_true] at z
  have z2 := z.2
  unfold Builtin.Int.intTooBig at z2
  have z3 := of_decide_eq_true z2
  rw [e] at z3
  omega
theorem log2_le {n a : Nat} (h : n < 2 ^ a) (ha : 0 < a) : n.log2 < a := by
  by_cases h0 : n = 0
  · subst h0; simp; exact ha
  · exact (Nat.log2_lt h0).mpr h
theorem CBig.of {i j : Int} {a b : Nat} (ha : i.natAbs < 2 ^ a) (hb : j.natAbs < 2 ^ b) (h0 : 0 < a) (h1 : 0 < b) (h : a + b ≤ 100000000) : CBig i j := by
  have x := log2_le ha h0
  have y := log2_le hb h1
  unfold CBig
  omega
def rAddA : R2 := fun x y H Q => rI0 (fun i j => .int (i + j)) x y H Q ∨ ((fun x y H Q => ∃ i j, x = .str i ∧ y = .str j ∧ i.length + j.length ≤ sizeLine ∧ Q (.str (i ++ j)) H) x y H Q ∨ rCat x y H Q)
def rMulA : R2 := fun x y H Q => rI CBig (fun i j => .int (i * j)) x y H Q ∨ rRep x y H Q
def CFd (i j : Int) : Prop := j ≠ 0 ∧ j.natAbs.log2 < 9000
def rFdA : R2 := rI CFd fun i j => .int (i.fdiv j)
def rLtA : R2 := fun x y H Q => rI0 (fun i j => .bl (decide (i < j))) x y H Q ∨ (fun x y H Q => ∃ i j, x = .str i ∧ y = .str j ∧ Q (.bl (decide (i.cps.toList < j.cps.toList))) H) x y H Q
def rLeA : R2 := fun x y H Q => rI0 (fun i j => .bl (decide (i ≤ j))) x y H Q ∨ (fun x y H Q => ∃ i j, x = .str i ∧ y = .str j ∧ Q (.bl (!decide (j.cps.toList < i.cps.toList))) H) x y H Q
section
variable {X : Cx}
theorem opAdd : OpR X (binaryOp .Add) rAddA := op_add.or (op_add_str.or op_cat)
theorem opMul : OpR X (binaryOp .Mult) rMulA := OpR.or (opI fun _ _ _ _ _ _ _ hc q => mul_int q hc.ok) op_rep
theorem opFd : OpR X (binaryOp .FloorDiv) rFdA := opI fun i j _ _ _ _ _ hc q => floordiv_int hc.1 q (.inl (PyProof.noPylong_of_log2 hc.2))
theorem opLt : OpR X (compareOp .Lt) rLtA := op_lt.or op_lt_str
theorem opLe : OpR X (compareOp .LtE) rLeA := op_le.or op_le_str
end
/-! ### plain data -/
mutual
def D.py : D → PyData
  | .non => .none
  | .bl b => .bool b
  | .int i => .int i
  | .str x => .str x
  | .lst ds => .list (D.pyA ds)
  | .tup ds => .tuple (D.pyA ds)
  | .dct => .none
  | .scr _ => .none
  | .adr _ => .none
  | .ty _ => .none
  | .ins _ _ => .none
def D.pyA : List D → List PyData
  | [] => []
  | d :: ds => D.py d :: D.pyA ds
end
theorem pyA_map (ds : List D) : D.pyA ds = ds.map D.py := by
  induction ds with
  | nil => rfl
  | cons d ds ih => simp only [D.pyA, List.map_cons, ih]
inductive Pl : Nat → D → Prop
  | non {n : Nat} : Pl n .non
  | bl {n : Nat} (b : Bool) : Pl n (.bl b)
  | int {n : Nat} (i : Int) : Pl n (.int i)
  | str {n : Nat} {x : Str} (h : PyData.strOk x = true) : Pl n (.str x)
  | lst {n : Nat} {ds : List D} : (∀ d ∈ ds, Pl n d) → Pl (n + 1) (.lst ds)
  | tup {n : Nat} {ds : List D} : (∀ d ∈ ds, Pl n d) → Pl (n + 1) (.tup ds)
theorem Pl.mono {n m : Nat} {d : D} (h : Pl n d) : n ≤ m → Pl m d := by
  induction h generalizing m with
  | non => exact fun _ => .non
  | bl b => exact fun _ => .bl b
  | int i => exact fun _ => .int i
  | str h => exact fun _ => .str h
  | lst h ih =>
    intro hm
    obtain ⟨k, rfl⟩ : ∃ k, m = k + 1 := ⟨m - 1, by omega⟩
    exact .lst fun d hd => ih d hd (by omega)
  | tup h ih =>
    intro hm
    obtain ⟨k, rfl⟩ : ∃ k, m = k + 1 := ⟨m - 1, by omega⟩
    exact .tup fun d hd => ih d hd (by omega)
section
variable {K : PySem.W.Frag} {H : Hp}
theorem dp_all : ∀ {vs : List V} {ds : List D}, RpA K H vs ds → (∀ d ∈ ds, ∀ v, Rp K H v d → Dp K H v d.py) → DpAll K H vs (D.pyA ds)
  | _, _, .nil, _ => .nil
  | _, _, .cons h t, f => .cons (f _ List.mem_cons_self _ h) (dp_all t fun d hd => f d (List.mem_cons_of_mem _ hd))
theorem dp_of {n : Nat} {d : D} (h : Pl n d) : ∀ {v : V}, Rp K H v d → Dp K H v d.py := by
  induction h with
  | non => intro v r; cases r; exact .non
  | bl b => intro v r; cases r; exact .bl b
  | int i => intro v r; cases r; exact .int i
  | str h => intro v r; cases r; exact .str _
  | lst h ih =>
    intro v r
    cases r with
    | lst hs ha =>
      simp only [D.py]
      exact .lst (.inl (.inl hs)) (dp_all ha fun d hd v => ih d hd)
  | tup h ih =>
    intro v r
    cases r with
    | tup hs ha =>
      simp only [D.py]
      exact .tup hs (dp_all ha fun d hd v => ih d hd)
end
theorem canAll {ds : List D} (h : ∀ d ∈ ds, d.py.canLay0 = true) : PyData.canLayAll0 (D.pyA ds) = true := by
  induction ds with
  | nil => simp only [D.pyA, PyData.canLayAll0]
  | cons d ds ih =>
    simp only [D.pyA, PyData.canLayAll0, h d List.mem_cons_self, ih fun x hx => h x (List.mem_cons_of_mem _ hx), Bool.and_self]
theorem depAll {n : Nat} {ds : List D} (h : ∀ d ∈ ds, d.py.depth ≤ n) : PyData.depthAll (D.pyA ds) ≤ n := by
  induction ds with
  | nil => simp only [D.pyA, PyData.depthAll]; omega
  | cons d ds ih =>
    simp only [D.pyA, PyData.depthAll]
    have h1 := h d List.mem_cons_self
    have h2 := ih fun x hx => h x (List.mem_cons_of_mem _ hx)
    omega
theorem pl_can {n : Nat} {d : D} (h : Pl n d) : d.py.canLay0 = true := by
  induction h with
  | non => rfl
  | bl b => rfl
  | int i => rfl
  | str h => simpa [D.py, PyData.canLay0] using h
  | lst h ih => simp only [D.py, PyData.canLay0]; exact canAll ih
  | tup h ih => simp only [D.py, PyData.canLay0]; exact canAll ih
theorem pl_dep {n : Nat} {d : D} (h : Pl n d) : d.py.depth ≤ n + 1 := by
  induction h with
  | non => simp [D.py, PyData.depth]
  | bl b => simp [D.py, PyData.depth]
  | int i => simp [D.py, PyData.depth]
  | str h => simp [D.py, PyData.depth]
  | lst h ih => simp only [D.py, PyData.depth]; have := depAll ih; omega
  | tup h ih => simp only [D.py, PyData.depth]; have := depAll ih; omega
theorem pl_shaped {n : Nat} {d : D} (h : Pl n d) (hn : n ≤ 60) : SeqAt.shaped d.py = true := by
  unfold SeqAt.shaped
  rw [pl_can h, Bool.true_and]
  have := pl_dep h
  exact decide_eq_true (by omega)
def eqD (d e : D) : Bool := PyData.eqv d.py e.py
/-! ### what they give -/
section
variable {K : PySem.W.Frag} {d dx dy : D} {ds es : List D} {i j : Int} {x y : Str}
theorem r2_addI : R2D K rAddA (.int i) (.int j) (.int (i + j)) := fun F H v w s rv rw Q q => by
  cases rv; cases rw
  exact .inl ⟨i, j, rfl, rfl, q _ F H (Gr.refl s) (.int _)⟩
theorem r2_addS (h : x.length + y.length ≤ 100000) : R2D K rAddA (.str x) (.str y) (.str (x ++ y)) := fun F H v w s rv rw Q q => by
  cases rv; cases rw
  exact .inr (.inl ⟨x, y, rfl, rfl, Nat.le_trans h (by decide), q _ F H (Gr.refl s) (.str _)⟩)
theorem r2_addL (h : ds.length + es.length ≤ 100000) : R2D K rAddA (.lst ds) (.lst es) (.lst (ds ++ es)) := fun F H v w s rv rw Q q => by
  cases rv with
  | @lst a xs _ ha ra =>
    cases rw with
    | @lst b ys _ hb rb =>
      refine .inr (.inr ⟨a, b, xs, ys, rfl, rfl, s _ _ ha, s _ _ hb, Nat.le_trans (by rw [ra.len, rb.len]; exact h) (by decide), fun p hp => ?_⟩)
      have g := Gr.new (o := .lst (xs ++ ys)) s hp
      exact q _ _ _ g (.lst upd_same ((ra.append rb).mono g.f))
theorem r2_subI : R2D K (rI0 fun i j => .int (i - j)) (.int i) (.int j) (.int (i - j)) := fun F H v w s rv rw Q q => by
  cases rv; cases rw
  exact ⟨i, j, rfl, rfl, q _ F H (Gr.refl s) (.int _)⟩
theorem r2_mulI (h : CBig i j) : R2D K rMulA (.int i) (.int j) (.int (i * j)) := fun F H v w s rv rw Q q => by
  cases rv; cases rw
  exact .inl ⟨i, j, rfl, rfl, h, q _ F H (Gr.refl s) (.int _)⟩
theorem r2_mulL (h : ds.length * i.toNat ≤ 100000) (hi : -(2 ^ 63) ≤ i ∧ i < 2 ^ 63) : R2D K rMulA (.lst ds) (.int i) (.lst (List.replicate i.toNat ds).flatten) := fun F H v w s rv rw Q q => by
  cases rw
  cases rv with
  | @lst a xs _ ha ra =>
    refine .inr ⟨a, i, xs, rfl, rfl, s _ _ ha, hi.1, hi.2, Nat.le_trans (by rw [ra.len]; exact h) (by decide), fun p hp => ?_⟩
    have g := Gr.new (o := .lst (List.replicate i.toNat xs).flatten) s hp
    exact q _ _ _ g (.lst upd_same ((ra.rep _).mono g.f))
theorem r2_mod (h : 0 < j) : R2D K (rI (fun _ j => 0 < j) fun i j => .int (i % j)) (.int i) (.int j) (.int (i % j)) := fun F H v w s rv rw Q q => by
  cases rv; cases rw
  exact ⟨i, j, rfl, rfl, h, q _ F H (Gr.refl s) (.int _)⟩
theorem r2_fd (h : CFd i j) : R2D K rFdA (.int i) (.int j) (.int (i.fdiv j)) := fun F H v w s rv rw Q q => by
  cases rv; cases rw
  exact ⟨i, j, rfl, rfl, h, q _ F H (Gr.refl s) (.int _)⟩
theorem r2_fdP (h : 0 < j) (hj : j.natAbs.log2 < 9000 := by decide) : R2D K rFdA (.int i) (.int j) (.int (i / j)) := by
  have e : i.fdiv j = i / j := Int.fdiv_eq_ediv_of_nonneg i (by omega)
  rw [← e]
  exact r2_fd ⟨by omega, hj⟩
theorem r2_pow (h : CPow i j) : R2D K (rI CPow fun i j => .int (i ^ j.toNat)) (.int i) (.int j) (.int (i ^ j.toNat)) := fun F H v w s rv rw Q q => by
  cases rv; cases rw
  exact ⟨i, j, rfl, rfl, h, q _ F H (Gr.refl s) (.int _)⟩
theorem r2_ltI : R2D K rLtA (.int i) (.int j) (.bl (decide (i < j))) := fun F H v w s rv rw Q q => by
  cases rv; cases rw
  exact .inl ⟨i, j, rfl, rfl, q _ F H (Gr.refl s) (.bl _)⟩
theorem r2_leI : R2D K rLeA (.int i) (.int j) (.bl (decide (i ≤ j))) := fun F H v w s rv rw Q q => by
  cases rv; cases rw
  exact .inl ⟨i, j, rfl, rfl, q _ F H (Gr.refl s) (.bl _)⟩
theorem r2_ltS : R2D K rLtA (.str x) (.str y) (.bl (decide (x.cps.toList < y.cps.toList))) := fun F H v w s rv rw Q q => by
  cases rv; cases rw
  exact .inr ⟨x, y, rfl, rfl, q _ F H (Gr.refl s) (.bl _)⟩
theorem r2_leS : R2D K rLeA (.str x) (.str y) (.bl (!decide (y.cps.toList < x.cps.toList))) := fun F H v w s rv rw Q q => by
  cases rv; cases rw
  exact .inr ⟨x, y, rfl, rfl, q _ F H (Gr.refl s) (.bl _)⟩
theorem r2_gt : R2D K (rI0 fun i j => .bl (decide (j < i))) (.int i) (.int j) (.bl (decide (j < i))) := fun F H v w s rv rw Q q => by
  cases rv; cases rw
  exact ⟨i, j, rfl, rfl, q _ F H (Gr.refl s) (.bl _)⟩
theorem r2_ge : R2D K (rI0 fun i j => .bl (decide (j ≤ i))) (.int i) (.int j) (.bl (decide (j ≤ i))) := fun F H v w s rv rw Q q => by
  cases rv; cases rw
  exact ⟨i, j, rfl, rfl, q _ F H (Gr.refl s) (.bl _)⟩
theorem r2_eq {n m : Nat} (h1 : Pl n dx) (h2 : Pl m dy) (hn : n ≤ 60 := by decide) (hm : m ≤ 60 := by decide) : R2D K (rEqD K) dx dy (.bl (eqD dx dy)) := fun F H v w s rv rw Q q =>
  ⟨_, _, dp_of h1 (rv.mono s), dp_of h2 (rw.mono s), pl_shaped h1 hn, pl_shaped h2 hm, q _ F H (Gr.refl s) (.bl _)⟩
theorem r2_ne {n m : Nat} (h1 : Pl n dx) (h2 : Pl m dy) (hn : n ≤ 60 := by decide) (hm : m ≤ 60 := by decide) : R2D K (rNeD K) dx dy (.bl (!eqD dx dy)) := fun F H v w s rv rw Q q =>
  ⟨_, _, dp_of h1 (rv.mono s), dp_of h2 (rw.mono s), pl_shaped h1 hn, pl_shaped h2 hm, q _ F H (Gr.refl s) (.bl _)⟩
theorem r2_eqI : R2D K (rEqD K) (.int i) (.int j) (.bl (decide (i = j))) := r2_eq (.int (n := 0) i) (.int (n := 0) j)
theorem r2_neI : R2D K (rNeD K) (.int i) (.int j) (.bl (!decide (i = j))) := r2_ne (.int (n := 0) i) (.int (n := 0) j)
theorem ixn_map {α β : Type} {xs : List α} {ys : List β} (h : xs.length = ys.length) (i : Int) : ixN xs.length i = ixN ys.length i := by rw [h]
theorem atI_rp {F : Hp} {xs : List V} (r : RpA K F xs ds) (h : atI ds i = some d) : ∃ v, atI xs i = some v ∧ Rp K F v d := by
  unfold atI at h ⊢
  rw [r.len]
  cases q : ixN ds.length i with
  | none => rw [q] at h; cases h
  | some j =>
    rw [q] at h
    exact r.get h
theorem r2_ixL (h : atI ds i = some d) : R2D K (rIx K) (.lst ds) (.int i) d := fun F H v w s rv rw Q q => by
  cases rw
  cases rv with
  | @lst a xs _ ha ra =>
    obtain ⟨z, hz, rz⟩ := atI_rp ra h
    exact .inl ⟨a, xs, i, z, rfl, rfl, .inl (.inl (s _ _ ha)), hz, q _ F H (Gr.refl s) rz⟩
theorem r2_ixT (h : atI ds i = some d) : R2D K (rIx K) (.tup ds) (.int i) d := fun F H v w s rv rw Q q => by
  cases rw
  cases rv with
  | @tup a xs _ ha ra =>
    obtain ⟨z, hz, rz⟩ := atI_rp ra h
    exact .inr (.inl ⟨a, xs, i, z, rfl, rfl, sqt_mono s ha, hz, q _ F H (Gr.refl s) rz⟩)
theorem r2_ixP {ns : List Int} {n : Int} (h : atI ns i = some n) : R2D K (rIx K) (.scr ns) (.int i) (.int n) := fun F H v w s rv rw Q q => by
  cases rw
  cases rv with
  | @scr a _ ha =>
    refine .inl ⟨a, _, i, .int n, rfl, rfl, s.seq ha, ?_, q _ F H (Gr.refl s) (.int n)⟩
    unfold atI at h ⊢
    rw [List.length_map]
    cases z : ixN ns.length i with
    | none => rw [z] at h; cases h
    | some j =>
      rw [z] at h
      have h' : ns[j]? = some n := h
      simp [h']
theorem r2_ixS {c : Nat} (hz : x.length ≤ 100000) (h : atI x.cps.toList i = some c) : R2D K (rIx K) (.str x) (.int i) (.str ⟨#[c]⟩) := fun F H v w s rv rw Q q => by
  cases rv; cases rw
  exact .inr (.inr ⟨x, i, c, rfl, rfl, Nat.le_trans hz (by decide), h, q _ F H (Gr.refl s) (.str _)⟩)
theorem r2_isB {a b : Bool} : R2D K rIsB (.bl a) (.bl b) (.bl (decide (a = b))) := fun F H v w s rv rw Q q => by
  cases rv; cases rw
  exact ⟨a, b, rfl, rfl, q _ F H (Gr.refl s) (.bl _)⟩
theorem r2_notB {a b : Bool} : R2D K rNotB (.bl a) (.bl b) (.bl (!decide (a = b))) := fun F H v w s rv rw Q q => by
  cases rv; cases rw
  exact ⟨a, b, rfl, rfl, q _ F H (Gr.refl s) (.bl _)⟩
theorem r1_neg : R1D K (rU fun i => .int (-i)) (.int i) (.int (-i)) := fun F H v s rv Q q => by
  cases rv
  exact ⟨i, rfl, q _ F H (Gr.refl s) (.int _)⟩
/-! built-ins -/
theorem rc_abs : RcD K (fun xs H Q => ∃ i, xs = [.int i] ∧ Q (.int (if i < 0 then -i else i)) H) [.int i] (.int i.natAbs) := fun F H vs s r Q q => by
  have e := RpA.ints (ns := [i]) r
  refine ⟨i, e, ?_⟩
  have z : (if i < 0 then -i else i) = (i.natAbs : Int) := by split <;> omega
  rw [z]
  exact q _ F H (Gr.refl s) (.int _)
theorem rc_max2 : RcD K (fun xs H Q => ∃ i j, xs = [.int i, .int j] ∧ Q (.int (if j > i then j else i)) H) [.int i, .int j] (.int (max i j)) := fun F H vs s r Q q => by
  have e := RpA.ints (ns := [i, j]) r
  refine ⟨i, j, e, ?_⟩
  have z : (if j > i then j else i) = max i j := by split <;> omega
  rw [z]
  exact q _ F H (Gr.refl s) (.int _)
def rLenA (K : PySem.W.Frag) : List V → Hp → VK → Prop := fun xs H Q => ∃ x n, xs = [x] ∧ LenV K x H n ∧ Q (.int (n : Int)) H
theorem callLen {X : Cx} : CallR X (.builtin "len") (rLenA X.K) := call_len
theorem rc_lenL : RcD K (rLenA K) [.lst ds] (.int ds.length) := fun F H vs s r Q q => by
  cases r with
  | cons r rr =>
    cases rr
    cases r with
    | @lst a xs _ ha ra => exact ⟨.ref a, ds.length, rfl, .inl ⟨xs, .inl (.inl (s _ _ ha)), ra.len.symm⟩, q _ F H (Gr.refl s) (.int _)⟩
theorem rc_lenT : RcD K (rLenA K) [.tup ds] (.int ds.length) := fun F H vs s r Q q => by
  cases r with
  | cons r rr =>
    cases rr
    cases r with
    | @tup a xs _ ha ra => exact ⟨.ref a, ds.length, rfl, .inr ⟨xs, sqt_mono s ha, ra.len.symm⟩, q _ F H (Gr.refl s) (.int _)⟩
theorem rc_lenP {ns : List Int} : RcD K (rLenA K) [.scr ns] (.int ns.length) := fun F H vs s r Q q => by
  cases r with
  | cons r rr =>
    cases rr
    cases r with
    | @scr a _ ha => exact ⟨.ref a, ns.length, rfl, .inl ⟨_, s.seq ha, by rw [List.length_map]⟩, q _ F H (Gr.refl s) (.int _)⟩
theorem rc_lenS (h : x.length ≤ 100000) : RcD K (rLenA K) [.str x] (.int x.length) := fun F H vs s r Q q => by
  cases r with
  | cons r rr =>
    cases rr
    cases r
    exact ⟨.str x, x.length, rfl, ⟨Nat.le_trans h (by decide), rfl⟩, q _ F H (Gr.refl s) (.int _)⟩
def rIntA : List V → Hp → VK → Prop := fun xs H Q => ((∃ i, xs = [.int i] ∧ Q (.int i) H) ∨ ∃ k, xs = [.bl k] ∧ Q (.int (if k then 1 else 0)) H) ∨ (∃ a n, xs = [.str a] ∧ PySem.intText? a = some n ∧ a.length ≤ 640 ∧ Q (.int n) H)
theorem callInt {X : Cx} : CallR X (.type "int") rIntA := call_int1.or call_int_str
theorem rc_intB {b : Bool} : RcD K rIntA [.bl b] (.int (if b then 1 else 0)) := fun F H vs s r Q q => by
  have e := RpA.bls (ns := [b]) r
  exact .inl (.inr ⟨b, e, q _ F H (Gr.refl s) (.int _)⟩)
theorem rc_intS {n : Int} (h : PySem.intText? x = some n) (hl : x.length ≤ 640) : RcD K rIntA [.str x] (.int n) := fun F H vs s r Q q => by
  have e := RpA.strs (ns := [x]) r
  exact .inr ⟨x, n, e, h, hl, q _ F H (Gr.refl s) (.int _)⟩
theorem rc_all {bs : List Bool} : RcD K (rAll K) [.lst (bs.map .bl)] (.bl (bs.all id)) := fun F H vs s r Q q => by
  cases r with
  | cons r rr =>
    cases rr
    cases r with
    | @lst a xs _ ha ra =>
      have e := RpA.bls ra
      subst e
      exact ⟨a, bs, rfl, .inl (.inl (s _ _ ha)), q _ F H (Gr.refl s) (.bl _)⟩
theorem rc_sum {ns : List Int} : RcD K (rSum K) [.lst (ns.map .int)] (.int ns.sum) := fun F H vs s r Q q => by
  cases r with
  | cons r rr =>
    cases rr
    cases r with
    | @lst a xs _ ha ra =>
      have e := RpA.ints ra
      subst e
      exact ⟨a, ns, rfl, .inl (.inl (s _ _ ha)), q _ F H (Gr.refl s) (.int _)⟩
/-- the type of plain things -/
def tyD : D → Option String
  | .non => some "NoneType"
  | .bl _ => some "bool"
  | .int _ => some "int"
  | .str _ => some "str"
  | .lst _ => some "list"
  | .tup _ => some "tuple"
  | .dct => some "dict"
  | _ => none
theorem tyX_of {F H : Hp} {v : V} {T : String} (s : Same F H) (r : Rp K F v d) (h : tyD d = some T) : TyX K H v (.type T) := by
  cases r with
  | non => cases h; exact .base .non
  | bl b => cases h; exact .base (.bl b)
  | int i => cases h; exact .base (.int i)
  | str x => cases h; exact .base (.str x)
  | lst ha _ => cases h; exact .base (.lst (s _ _ ha))
  | tup ha _ =>
    cases h
    rcases ha with (ha | ⟨o, ha⟩) | ⟨o, _, _, ha, hc, _⟩
    · exact .base (.tup (s _ _ ha))
    · exact .fTuple (s _ _ ha)
    · exact .kTuple ha hc
  | dct ha => cases h; exact .base (.dK (s _ _ ha))
  | scr _ => cases h
  | adr _ => cases h
  | ty _ => cases h
  | ins _ _ => cases h
theorem rc_isi {T U : String} {b : Bool} (h : tyD d = some T) (hb : kitB T U = some b) : RcD K (rIsi K) [d, .ty U] (.bl b) := fun F H vs s r Q q => by
  cases r with
  | cons r rr =>
    cases rr with
    | cons r2 rr =>
      cases rr
      cases r2
      exact ⟨_, _, _, _, b, rfl, .ty U, tyX_of s r h, kit_ty hb, q _ F H (Gr.refl s) (.bl b)⟩
end
end DL

namespace DL
open PySem PySem.Spec PyProof.Rows L2
/-! ### defs by name -/
structure Df (K : PySem.W.Frag) (mg : Str → Option Value) (x : Str) (ps : List Str) (st : Stmt) : Prop where
  ex : ∃ (f : Addr) (fd : FuncData), Fun K x x st f fd ∧ mg x = some (.ref f) ∧ Binds K fd ps []
structure Cl (P : Program) (w : World) (K : PySem.W.Frag) (mg : Str → Option Value) (base : Heap) (CX : CXT) (k : Nat) (x : Str) (sp : Sp) : Prop where
  ex : ∃ (f : Addr) (fd : FuncData) (ps : List Str), FnOk P w K mg base CX k f fd ps sp ∧ mg x = some (.ref f) ∧ PySem.W.keepIn K (.ref f) = true ∧ Binds K fd ps []
section
variable {P : Program} {w : World} {K : PySem.W.Frag} {mg : Str → Option Value} {base : Heap} {x : Str} {st : Stmt} {N ps : List Str} {k : Nat} {S : List D → D → Prop} {T : List D → Addr → Prop} {sp : Sp}
theorem clR (D : Df K mg x ps st) (sc : FnScope N ps (defScope st)) (len : ∀ ds d, S ds d → ds.length = ps.length)
    (body : ∀ (f : Addr) (cdv : Value) (A : Around) (outer : List Env) (s : Shared) (H : Hp) (E : XK), Room k (A.deeper (envOfC x (defScope st) s.heap.objs.size f cdv)) →
      ∃ t, PSs (cxOf CX0 P w K mg base N x (defScope st) f cdv A outer s H E).nox (defBody st) t ∧ ∀ ds d, S ds d → Sd K E0 t (startG N ds) (.rt d)) : Cl P w K mg base CX0 (k + 1) x (spR K S) := by
  obtain ⟨f, fd, F, hm, b⟩ := D.ex
  exact ⟨f, fd, ps, fnR F sc len (body f), hm, F.kp, b⟩
theorem clX (D : Df K mg x ps st) (sc : FnScope N ps (defScope st)) (len : ∀ ds d, S ds d → ds.length = ps.length) (len2 : ∀ ds C, T ds C → ds.length = ps.length)
    (body : ∀ (f : Addr) (cdv : Value) (A : Around) (outer : List Env) (s : Shared) (H : Hp) (E : XK), Room k (A.deeper (envOfC x (defScope st) s.heap.objs.size f cdv)) →
      ∃ t, PSs (cxOf (L2.CX P w) P w K mg base N x (defScope st) f cdv A outer s H E) (defBody st) t ∧ (∀ ds d, S ds d → Sd K E t (startG N ds) (.rt d)) ∧ (∀ ds C, T ds C → Sd K E t (startG N ds) (.ex C))) : Cl P w K mg base (L2.CX P w) (k + 1) x (spX K S T) := by
  obtain ⟨f, fd, F, hm, b⟩ := D.ex
  exact ⟨f, fd, ps, fnX F sc len len2 (body f), hm, F.kp, b⟩
theorem clImp {sp' : Sp} {CX : CXT} (c : Cl P w K mg base CX k x sp) (h : ∀ vs H Q E, sp' vs H Q E → sp vs H Q E) : Cl P w K mg base CX k x sp' := by
  obtain ⟨f, fd, ps, F, a, b, d⟩ := c.ex
  exact ⟨f, fd, ps, F.imp h, a, b, d⟩
theorem clMono {CX : CXT} {j : Nat} (c : Cl P w K mg base CX k x sp) (h : k ≤ j) : Cl P w K mg base CX j x sp := by
  obtain ⟨f, fd, ps, F, a, b, d⟩ := c.ex
  exact ⟨f, fd, ps, F.mono h, a, b, d⟩
end
section
variable {X : Cx} {k j : Nat} {x : Str} {sp : Sp} {p pos : Pos} {e : Expr} {es : List Expr} {t : TA}
theorem pcl (c : Cl X.prog X.w X.K X.mg X.base CX0 k x sp) (hr : Room j X.A) (hk : k ≤ j) (hg : Gl X x) (ha : PA X (e :: es) t)
    (hdb : (x == ("__debug__" : Str)) = false := by decide) (he : starEach (e :: es) X.env = (false, eval e X.env) :: starEach es X.env := by rfl) (hpl : (backTo pos (starEach es X.env)).any (·.1) = false := by rfl) :
    PE X (.Call (.Name x p) (e :: es) [] pos) (tCall sp [] E0 t) := by
  obtain ⟨f, fd, ps, F, hm, kp, b⟩ := c.ex
  exact pe_call F (hr.mono hk) hg hm kp b .nil pass0 ha hdb he hpl
/-- a def that may raise, where nothing is let out: it does not -/
theorem pclX (c : Cl X.prog X.w X.K X.mg X.base (L2.CX X.prog X.w) k x sp) (hr : Room j X.A) (hk : k ≤ j) (hg : Gl X x) (ha : PA X (e :: es) t)
    (hdb : (x == ("__debug__" : Str)) = false := by decide) (he : starEach (e :: es) X.env = (false, eval e X.env) :: starEach es X.env := by rfl) (hpl : (backTo pos (starEach es X.env)).any (·.1) = false := by rfl) :
    PE X (.Call (.Name x p) (e :: es) [] pos) (tCall sp [] E0 t) := by
  obtain ⟨f, fd, ps, F, hm, kp, b⟩ := c.ex
  exact pe_call F (hr.mono hk) hg hm kp b .nil passL ha hdb he hpl
/-- .. where errors are let out -/
theorem pclR {E : XK} (c : Cl X.prog X.w X.K X.mg X.base (L2.CX X.prog X.w) k x sp) (hr : Room j X.A) (hk : k ≤ j) (hg : Gl X x) (hx : Passes (L2.CX X.prog X.w) X E) (ha : PA X (e :: es) t)
    (hdb : (x == ("__debug__" : Str)) = false := by decide) (he : starEach (e :: es) X.env = (false, eval e X.env) :: starEach es X.env := by rfl) (hpl : (backTo pos (starEach es X.env)).any (·.1) = false := by rfl) :
    PE X (.Call (.Name x p) (e :: es) [] pos) (tCall sp [] E t) := by
  obtain ⟨f, fd, ps, F, hm, kp, b⟩ := c.ex
  exact pe_call F (hr.mono hk) hg hm kp b .nil hx ha hdb he hpl
/-- inside a try's body, at the slots -/
theorem pclS {E : L2.St → XK} (c : Cl X.prog X.w X.K X.mg X.base (L2.CX X.prog X.w) k x sp) (hr : Room j X.A) (hk : k ≤ j) (hg : Gl X x) (hx : ∀ σ, PassesAt (L2.CX X.prog X.w) X σ (E σ)) (ha : PA X (e :: es) t)
    (hdb : (x == ("__debug__" : Str)) = false := by decide) (he : starEach (e :: es) X.env = (false, eval e X.env) :: starEach es X.env := by rfl) (hpl : (backTo pos (starEach es X.env)).any (·.1) = false := by rfl) :
    PE X (.Call (.Name x p) (e :: es) [] pos) (tCallS sp E t) := by
  obtain ⟨f, fd, ps, F, hm, kp, b⟩ := c.ex
  exact pe_callS F (hr.mono hk) hg hm kp b hx ha hdb he hpl
end
/-! ### slices of lists and of texts -/
def rSlA (K : PySem.W.Frag) : V → Option Int → Option Int → Hp → VK → Prop := fun x lo hi H Q => rSlL K x lo hi H Q ∨ rSlS x lo hi H Q
theorem slA {X : Cx} : SlR X (rSlA X.K) := fun pins s σ H x v vl vu lo hi sl Q I rx hs pl pu h => by
  rcases h with h | h
  · exact sl_list pins s σ H x v vl vu lo hi sl Q I rx hs pl pu h
  · exact sl_str pins s σ H x v vl vu lo hi sl Q I rx hs pl pu h
def cutD (ds : List D) (lo hi : Option Int) : List D := (ds.drop (HT.sIx ds.length 0 lo)).take (HT.sIx ds.length ds.length hi - HT.sIx ds.length 0 lo)
section
variable {K : PySem.W.Frag} {ds : List D} {lo hi : Option Int} {x : Str}
theorem rs_lst : RsD K (rSlA K) (.lst ds) lo hi (.lst (cutD ds lo hi)) := fun F H v s rv Q q => by
  cases rv with
  | @lst a xs _ ha ra =>
    refine .inl ⟨a, xs, rfl, .inl (.inl (s _ _ ha)), fun p hp => ?_⟩
    have g := Gr.new (o := .lst (cutV xs lo hi)) s hp
    refine q _ _ _ g (.lst upd_same (RpA.mono g.f ?_))
    unfold cutV cutD
    rw [ra.len]
    exact (ra.drop _).take _
theorem rs_scr {ns : List Int} : RsD K (rSlA K) (.scr ns) lo hi (.lst (cutD (ns.map .int) lo hi)) := fun F H v s rv Q q => by
  cases rv with
  | @scr a _ ha =>
    refine .inl ⟨a, _, rfl, s.seq ha, fun p hp => ?_⟩
    have g := Gr.new (o := .lst (cutV (ns.map V.int) lo hi)) s hp
    refine q _ _ _ g (.lst upd_same (RpA.mono g.f ?_))
    unfold cutV cutD
    rw [List.length_map, List.length_map]
    exact ((RpA.ofInts ns).drop _).take _
theorem rs_str (h : x.length ≤ 100000) : RsD K (rSlA K) (.str x) lo hi (.str (cutS x lo hi)) := fun F H v s rv Q q => by
  cases rv
  exact .inr ⟨x, rfl, Nat.le_trans h (by decide), q _ F H (Gr.refl s) (.str _)⟩
end
/-! ### what the built-in names are -/
theorem bt_isinstance : bootBuiltins "isinstance" = some (.builtin "isinstance") := by decide +kernel
theorem bt_len : bootBuiltins "len" = some (.builtin "len") := by decide +kernel
theorem bt_abs : bootBuiltins "abs" = some (.builtin "abs") := by decide +kernel
theorem bt_max : bootBuiltins "max" = some (.builtin "max") := by decide +kernel
theorem bt_min : bootBuiltins "min" = some (.builtin "min") := by decide +kernel
theorem bt_all : bootBuiltins "all" = some (.builtin "all") := by decide +kernel
theorem bt_sum : bootBuiltins "sum" = some (.builtin "sum") := by decide +kernel
theorem bt_sorted : bootBuiltins "sorted" = some (.builtin "sorted") := by decide +kernel
theorem bt_repr : bootBuiltins "repr" = some (.builtin "repr") := by decide +kernel
theorem bt_int : bootBuiltins "int" = some (.type "int") := by decide +kernel
theorem bt_str : bootBuiltins "str" = some (.type "str") := by decide +kernel
theorem bt_list : bootBuiltins "list" = some (.type "list") := by decide +kernel
theorem bt_tuple : bootBuiltins "tuple" = some (.type "tuple") := by decide +kernel
theorem bt_bool : bootBuiltins "bool" = some (.type "bool") := by decide +kernel
theorem bt_dict : bootBuiltins "dict" = some (.type "dict") := by decide +kernel
theorem bt_ValueError : bootBuiltins "ValueError" = some (.type "ValueError") := by decide +kernel
/-- a class as a value -/
theorem rc_isiC {K : PySem.W.Frag} {d : D} {t : Value} {C : Addr} {b : Bool} (ht : ∀ F H v, Same F H → Rp K F v d → TyX K H v t) (hb : PySem.W.kitOne K t (.ref C) = some b) : RcD K (rIsi K) [d, .adr C] (.bl b) := fun F H vs s r Q q => by
  cases r with
  | cons r rr =>
    cases rr with
    | cons r2 rr =>
      cases rr
      cases r2
      exact ⟨_, _, _, _, b, rfl, .own C, ht F H _ s r, hb, q _ F H (Gr.refl s) (.bl b)⟩
end DL

namespace DL
open PySem PySem.Spec PyProof.Rows L2
/-! ### a def called within an except suite, its argument the error that is handled -/
structure FnE (P : Program) (w : World) (K : PySem.W.Frag) (mg : Str → Option Value) (base : Heap) (k : Nat) (f : Addr) (fd : FuncData) (ps : List Str) (C : Addr) (d : D) : Prop where
  len : ps.length = 1
  run : ∀ (A : Around) (outer : List Env) (s : Shared) (H F : Hp) (args : Args) (us : List Value) (Q : VK) (p : Addr × Obj), L2H.RoomH k A → Zc (.ref C) none p.2 → (∃ vs, p.2.data = .fields vs) → L2H.PinOk outer H s p →
    Env0 P w K mg base A outer s H → BindsTo s fd args (ps.zip us) → Vals [.ref p.1] us → Same F H → (∀ v F' H', Gr F H F' H' → Rp K F' v d → Q v H') → codeAny (model P w) A (.call (.ref f) args) (CR CX0 outer P w H s Q E0) s
structure ClE (P : Program) (w : World) (K : PySem.W.Frag) (mg : Str → Option Value) (base : Heap) (k : Nat) (x : Str) (C : Addr) (d : D) : Prop where
  ex : ∃ (f : Addr) (fd : FuncData) (ps : List Str), FnE P w K mg base k f fd ps C d ∧ mg x = some (.ref f) ∧ PySem.W.keepIn K (.ref f) = true ∧ Binds K fd ps []
section
variable {P : Program} {w : World} {K : PySem.W.Frag} {mg : Str → Option Value} {base : Heap}
theorem clE {x : Str} {st : Stmt} {N ps : List Str} {k : Nat} {C : Addr} {d : D} (De : Df K mg x ps st) (S : FnScope N ps (defScope st)) (hl : ps.length = 1)
    (body : ∀ (f : Addr) (cdv : Value) (A : Around) (outer : List Env) (s : Shared) (H : Hp) (p : Addr × Obj), Zc (.ref C) none p.2 → (∃ vs, p.2.data = .fields vs) → L2H.RoomH k (A.deeper (envOfC x (defScope st) s.heap.objs.size f cdv)) →
      ∃ t, PSs (L2H.cxH CX0 P w K mg base N x (defScope st) f cdv A outer s H E0 p).nox (defBody st) t ∧ Sd K E0 t (startG N [.adr p.1]) (.rt d)) : ClE P w K mg base (k + 1) x C d := by
  obtain ⟨f, fd, F, hm, b⟩ := De.ex
  have kp := F.kp
  obtain ⟨oc, od, kV, doc, pm, an, cdv, ct, osl, rfl, lk, hcd⟩ := F.ex
  refine ⟨f, _, ps, ⟨hl, fun A outer s H Fz args us Q p hr hz hf hpin e0 hb r sF q => ?_⟩, hm, kp, b⟩
  have hlv : ([V.ref p.1] : List V).length = ps.length := hl.symm
  have KX : K.In s.heap := e0.mod.kin.keeps fun b o e => (e0.bs b o e).1
  have lim : s.heap.NoLimit := e0.mod.nolimit.keeps fun b o e => (e0.bs b o e).1
  have hkind : ∀ y ∈ ps.zip us, (defScope st).names.lookup y.1 = some .local ∨ ((defScope st).names.lookup y.1 = some .cell ∧ ((cellsFrom (s.heap.objs.size + 1) (defScope st).names []).lookup y.1).isSome = true) := by
    rintro ⟨n, v⟩ hy
    rcases S.par n (List.of_mem_zip hy).1 with z | z
    · exact .inl z
    · exact .inr ⟨z, PySem.W.cellsFrom_some _ _ _ (.inl z)⟩
  refine codeAny_call_function hr.depth (KX _ _ lk) rfl S.co S.gen rfl (PySem.W.codeRec_of KX hcd) (hb _ _ _ _ ?_)
  refine wpAny_newFunctionEnv_cells S.kind hkind fun env he s1 x => ?_
  subst he
  refine ⟨lim.keeps x.toInCall.keep, codeAny_func ?_⟩
  obtain ⟨t, ht, hq⟩ := body f cdv A outer s H p hz hf (hr.deeper _)
  have I := L2H.inv_startH (CX := CX0) (E := E0) (f := f) (cd := cdv) S hpin e0 hlv r x
  refine wpAny_mono (ht.nox.run [] s1 (L2.start N [.ref p.1]) H _ I (run_rt (Q := Q) hq sF (.cons (.adr p.1) .nil) q)) (fun fl s' hs => ?_) fun e s' hs => hs
  cases fl with
  | ret u =>
    obtain ⟨v, σ', H', J, rv, q'⟩ := hs
    exact ⟨v, H', J.os, J.bare, J.base, J.hok, rv, q'⟩
  | next =>
    obtain ⟨σ', H', J, q'⟩ := hs
    exact ⟨.non, H', J.os, J.bare, J.base, J.hok, rfl, q'⟩
  | brk =>
    obtain ⟨_, _, _, z⟩ := hs
    exact z.elim
  | cont =>
    obtain ⟨_, _, _, z⟩ := hs
    exact z.elim
end
/-- isinstance of the error that is pinned -/
theorem call_isP {X : Cx} {p : Addr × Obj} {C : Addr} (hp : p ∈ X.pn) (G : ExcC X.K C) (hz : Zc (.ref C) none p.2) (hf : ∃ vs, p.2.data = .fields vs) : CallR X (.builtin "isinstance") (rIsE X.K C p.1) := by
  intro pins s σ H xs us Q I r h
  obtain ⟨c, cv, b, rfl, hcv, e, q⟩ := h
  obtain ⟨u1, u2, rfl, r1, r2⟩ := vals2 r
  cases (show u1 = Value.ref p.1 from r1)
  have ec := hcv _ r2
  subst ec
  have hget := (I.pin p (List.mem_append_left _ hp)).1
  obtain ⟨vs, hv⟩ := hf
  have J : PySem.W.InstAt s.heap p.1 p.2 C none := by
    obtain ⟨a, oc, od, oda, osl⟩ := p
    obtain ⟨h1, h2⟩ := hz
    dsimp only at h1 h2 hv
    subst h1 h2 hv
    exact ⟨hget, rfl, rfl, trivial⟩
  exact PySem.W.kia_one (PySem.W.handS_kitx_exc G.hg G.hk G.hs G.hd G.ha G.hn G.ht G.hm) I.kIn J e (fun z => nomatch z) fun tk => ⟨.bl b, H, I.tok tk, rfl, q⟩
section
variable {K : PySem.W.Frag} {C D' a : Addr} {b : Bool}
theorem rc_isP (h : PySem.W.kitOne K (.ref C) (.ref D') = some b) : RcD K (rIsE K C a) [.adr a, .adr D'] (.bl b) := fun F H vs s r Q q => by
  cases r with
  | cons r1 rr =>
    cases rr with
    | cons r2 rr =>
      cases rr
      cases r1
      cases r2
      exact ⟨.ref D', .ref D', b, rfl, fun u z => z, h, q _ F H (Gr.refl s) (.bl b)⟩
theorem rc_isPT {n : String} (h : PySem.W.kitOne K (.ref C) (.type n) = some b) : RcD K (rIsE K C a) [.adr a, .ty n] (.bl b) := fun F H vs s r Q q => by
  cases r with
  | cons r1 rr =>
    cases rr with
    | cons r2 rr =>
      cases rr
      cases r1
      cases r2
      exact ⟨.ty n, .type n, b, rfl, fun u z => z, h, q _ F H (Gr.refl s) (.bl b)⟩
end
/-! ### the call within the suite -/
def tCallE (K : PySem.W.Frag) (W : Addr → Option D) (a : Addr) (cls : Value) (dd : Option Addr) (t : TA) : TE := fun σ H Q => t σ H fun vs H1 => vs = [.ref a] ∧ ∃ C d F, cls = .ref C ∧ dd = none ∧ W C = some d ∧ Same F H1 ∧ ∀ v F' H', Gr F H1 F' H' → Rp K F' v d → Q v H'
theorem pe_callE {X : Cx} {a : Addr} {oe : Obj} {pn : List (Addr × Obj)} {cls : Value} {dd : Option Addr} {W : Addr → Option D} {k j : Nat} {x : Str} {q pos : Pos} {e : Expr} {t : TA} (hF : ∀ C d, W C = some d → ClE X.prog X.w X.K X.mg X.base k x C d)
    (hmx : ∃ f, X.mg x = some (.ref f) ∧ PySem.W.keepIn X.K (.ref f) = true)
    (hr : Room j X.A) (hk : k ≤ j) (hz : Zc cls dd oe) (hf : ∃ vs, oe.data = .fields vs) (hg : Gl X x) (ha : PA (X.suite a ((a, oe) :: pn)) [e] t) (hdb : (x == ("__debug__" : Str)) = false := by decide)
    (he : starEach (e :: []) X.env = (false, eval e X.env) :: starEach [] X.env := by rfl) (hpl : (backTo pos (starEach [] X.env)).any (·.1) = false := by rfl) :
    PE (X.suite a ((a, oe) :: pn)) (.Call (.Name x q) [e] [] pos) (tCallE X.K W a cls dd t) := by
  refine ⟨fun pins s σ H Q I h => ?_⟩
  have hroom : L2H.RoomH j (X.suite a ((a, oe) :: pn)).A := ⟨hr.dp, hr.un⟩
  obtain ⟨f0, hm0, kp0⟩ := hmx
  refine wpAny_Call_Name_kw (ld_glob (X := X.suite a ((a, oe) :: pn)) I hg hm0 ?_ hdb)
  refine PySem.W.callWith_K (h₀ := X.base) I.ok.mod.kin kp0 (thn (ha.run pos pins s σ H _ I h) fun us s1 ⟨vs, H1, I1, r, q1⟩ => ⟨I1.kIn, ?_⟩) he hpl
  obtain ⟨rfl, C, d, F, e1, e2, e3, sF, q2⟩ := q1
  obtain ⟨f, fd, ps, G, hm, kp, b⟩ := (hF C d e3).ex
  rw [hm0] at hm
  cases hm
  have hlu : us.length = ps.length := by rw [← r.length]; exact G.len.symm
  have bb := b s1 us I1.kIn (by rw [List.append_nil]; exact hlu)
  rw [List.append_nil] at bb
  have P1 := I1.pin (a, oe) (List.mem_append_left _ List.mem_cons_self)
  have hpin : L2H.PinOk (X.suite a ((a, oe) :: pn)).stack H1 s1 (a, oe) := ⟨P1.1, P1.2.1, fun hm => (List.mem_cons.mp (I1.stkSub a hm)).elim P1.2.2.1 P1.2.2.2.1, P1.2.2.2.2⟩
  have hz' : Zc (.ref C) none oe := ⟨hz.1.trans e1, hz.2.trans e2⟩
  refine wpAny_call (codeAny_mono (G.run _ _ s1 H1 F ⟨us, []⟩ us Q (a, oe) ⟨by have := hroom.dp; omega, by have := hroom.un; omega⟩ hz' hf hpin I1.env0 bb r sF q2) fun rs s' hq => ?_)
  cases rs with
  | error e => exact False.elim hq
  | ok fl =>
    cases fl with
    | ret u => exact I1.after hq
    | next => exact False.elim hq
    | brk => exact False.elim hq
    | cont => exact False.elim hq
/-! ### try: body, except C as e: return word_of(e) -/
/-- the body raises an error of the class at C, its slots as they were -/
def SdW (K : PySem.W.Frag) (W : WX) (ts : TS) (Γ : Gam) (C : Addr) : Prop := ∀ (F0 H0 F H : Hp) (σ : L2.St) (De : Ends), Ok K F0 H0 F H σ Γ → (∀ F1 H1, Ok K F0 H0 F1 H1 σ Γ → W (.ref C) none σ H1) → ts De σ H
def XdW (K : PySem.W.Frag) (W : WX) (te : TE) (Γ : Gam) (C : Addr) : Prop := ∀ (F0 H0 F H : Hp) (σ : L2.St), Ok K F0 H0 F H σ Γ → (∀ F1 H1, Ok K F0 H0 F1 H1 σ Γ → W (.ref C) none σ H1) → ∀ Q : VK, te σ H Q
section
variable {K : PySem.W.Frag} {E : XK} {W : WX} {Γ : Gam} {d : D} {ds : List D} {tas : TA} {te ta tb : TE} {t : TT} {ts tu : TS} {S : List D → D → Prop} {T : List D → Addr → Prop} {C : Addr}
theorem ed_callS {E' : L2.St → XK} (h : Ea K tas Γ ds) (hs : S ds d) : Ed K (tCallS (spX K S T) E' tas) Γ d := fun F0 H0 F H σ ok Q q => h F0 H0 F H σ ok _ fun vs F1 H1 g1 r1 =>
  ⟨F1, ds, g1.s, r1, .inl ⟨d, hs, fun v F2 H2 g2 r2 => q v F2 H2 (g1.trans g2) r2⟩⟩
theorem xw_callS (h : Ea K tas Γ ds) (hs : T ds C) : XdW K W (tCallS (spX K S T) (WE W) tas) Γ C := fun F0 H0 F H σ ok fin Q => h F0 H0 F H σ ok _ fun vs F1 H1 g1 r1 =>
  ⟨F1, ds, g1.s, r1, .inr ⟨C, hs, fun F2 H2 g2 => fin F2 H2 ((ok.grow g1).grow g2)⟩⟩
theorem sw_ret (h : XdW K W te Γ C) : SdW K W (tRet te) Γ C := fun F0 H0 F H σ De ok fin => h F0 H0 F H σ ok fin _
theorem sw_drop (h : XdW K W te Γ C) : SdW K W (tDrop te) Γ C := fun F0 H0 F H σ De ok fin => h F0 H0 F H σ ok fin _
theorem sw_head (h : SdW K W ts Γ C) : SdW K W (tSeq ts tu) Γ C := fun F0 H0 F H σ De ok fin => h F0 H0 F H σ _ ok fin
theorem sw_if {b : Bool} (h : Et K t Γ b) (h1 : b = true → SdW K W ts Γ C) (h2 : b = false → SdW K W tu Γ C) : SdW K W (tIfS t ts tu) Γ C := fun F0 H0 F H σ De ok fin => h F0 H0 F H σ ok _ fun F1 H1 g1 => by
  cases b with
  | true => exact h1 rfl F0 H0 F1 H1 σ De (ok.grow g1) fin
  | false => exact h2 rfl F0 H0 F1 H1 σ De (ok.grow g1) fin
/-- what stands ahead of it in the block does not raise and leaves the slots: an if that is not taken -/
theorem sw_skip (h : Et K t Γ false) (h2 : SdW K W tu Γ C) : SdW K W (tSeq (tIfS t ts tNext) tu) Γ C := fun F0 H0 F H σ De ok fin => h F0 H0 F H σ ok _ fun F1 H1 g1 => h2 F0 H0 F1 H1 σ De (ok.grow g1) fin
/-- the whole: it raises, is caught, and the word is told -/
theorem sd_caught {c : Value} {i : Nat} {Wm : Addr → Option D} {Wout : WX} {tb : WX → TS} (hi : i < Γ.length) (hb : ∀ W, SdW K W (tb W) Γ C) (hx : PySem.W.exmOne K (.ref C) c = some true) (hw : Wm C = some d) :
    Sd K E (fun De σ H => tb (wAs K c i (fun a cls dd => tRet (tCallE K Wm a cls dd (tCons (tVar i) tNil))) Wout De) De σ H) Γ (.rt d) := fun F0 H0 F H σ De ok fin =>
  hb _ F0 H0 F H σ De ok fun F1 H1 ok1 => ⟨true, hx, fun _ a ha => by
    have hs : (σ.set i (some (V.ref a)))[i]? = some (some (.ref a)) := List.getElem?_set_self (by rw [ok.len]; exact hi)
    exact ⟨.ref a, hs, rfl, C, d, F1, rfl, rfl, hw, ok1.g.s, fun v F' H' g r => fin v F' H' (ok1.g.trans g) r⟩, fun z => nomatch z⟩
/-- .. it returns -/
theorem sd_calm {Wx : Ends → WX} {tb : WX → TS} {o : Oc} (hb : ∀ W, Sd K E (tb W) Γ o) : Sd K E (fun De σ H => tb (Wx De) De σ H) Γ o := fun F0 H0 F H σ De ok fin => hb _ F0 H0 F H σ De ok fin
/-- sep.join(texts) -/
theorem ed_join {to te : TE} {a : Str} {ys : List Str} (h : Ed K to Γ (.str a)) (h2 : Ed K te Γ (.lst (ys.map .str))) (hl : (ys.map (·.length)).sum + ys.length * a.length ≤ 16777216) :
    Ed K (tM1 (fun x xs H Q => ∃ a p, ∃ ys : List Str, x = .str a ∧ xs = [.ref p] ∧ (SqL K H p (ys.map V.str) ∨ SqT K H p (ys.map V.str)) ∧ (ys.map (·.length)).sum + ys.length * a.length ≤ 16777216 ∧ Q (.str (Txt.join a ys)) H) to te) Γ (.str (Txt.join a ys)) := fun F0 H0 F H σ ok Q q => h F0 H0 F H σ ok _ fun v F1 H1 g1 r1 => by
  cases r1
  refine ⟨⟨a, rfl⟩, h2 F0 H0 F1 H1 σ (ok.grow g1) _ fun w F2 H2 g2 r2 => ?_⟩
  cases r2 with
  | @lst p xs _ hp ra =>
    have e := RpA.strs ra
    subst e
    exact ⟨a, p, ys, rfl, rfl, .inl (.inl (.inl (g2.s _ _ hp))), hl, q _ F2 H2 (g1.trans g2) (.str _)⟩
end
theorem kit_self {K : PySem.W.Frag} {C : Addr} : PySem.W.kitOne K (.ref C) (.ref C) = some true := by
  unfold PySem.W.kitOne
  rw [if_pos (by simp)]
theorem kit_other {K : PySem.W.Frag} {C C' : Addr} {b : Bool} (n : C ≠ C') (ic : PySem.W.isClsIn K C' = true) (tt : PySem.W.typeIn K (.ref C') = some (.type "type")) (hs : PySem.W.subIn K (.ref C) (.ref C') = some b) : PySem.W.kitOne K (.ref C) (.ref C') = some b := by
  unfold PySem.W.kitOne PySem.W.kitCls
  rw [if_neg (fun z => n (Value.ref.inj (beq_iff_eq.mp z)))]
  have ic' : (PySem.W.clsIn K C').isSome = true := ic
  show (if ((PySem.W.clsIn K C').isSome && PySem.W.typeIn K (.ref C') == some (.type "type")) = true then PySem.W.subIn K (.ref C) (.ref C') else none) = some b
  rw [if_pos (by rw [ic', tt]; rfl)]
  exact hs
theorem kit_val {K : PySem.W.Frag} {C : Addr} {b : Bool} (hs : PySem.W.subIn K (.ref C) (.type "ValueError") = some b) : PySem.W.kitOne K (.ref C) (.type "ValueError") = some b := by
  unfold PySem.W.kitOne PySem.W.kitCls
  rw [if_neg (by intro z; exact nomatch (beq_iff_eq.mp z))]
  show (if PySem.W.kitMeta "ValueError" = true then PySem.W.subIn K (.ref C) (.type "ValueError") else none) = some b
  rw [if_pos (by decide +kernel)]
  exact hs
/-- one class is caught -/
def W1 (C0 : Addr) (d0 : D) : Addr → Option D := fun C => if C = C0 then some d0 else none
theorem W1_self {C0 : Addr} {d0 : D} : W1 C0 d0 C0 = some d0 := if_pos rfl
section
variable {P : Program} {w : World} {K : PySem.W.Frag} {mg : Str → Option Value} {base : Heap} {k : Nat} {x : Str} {C0 : Addr} {d0 : D}
theorem W1_ok (c : ClE P w K mg base k x C0 d0) : ∀ C d, W1 C0 d0 C = some d → ClE P w K mg base k x C d := fun C d h => by
  unfold W1 at h
  by_cases e : C = C0
  · subst e
    rw [if_pos rfl] at h
    cases h
    exact c
  · rw [if_neg e] at h
    cases h
theorem ClE.mx (c : ClE P w K mg base k x C0 d0) : ∃ f, mg x = some (.ref f) ∧ PySem.W.keepIn K (.ref f) = true := by
  obtain ⟨f, fd, ps, _, a, b, _⟩ := c.ex
  exact ⟨f, a, b⟩
end
/-! ### the law's own promise -/
def spLaw (K : PySem.W.Frag) : Sp := fun vs H Q _ => ∃ (a : Addr) (ns : List Int), vs = [.ref a] ∧ SqL K H a (ns.map V.int) ∧ ns.length ≤ 63 ∧ (∀ z ∈ ns, Builtin.Int.intBits z ≤ 1048576) ∧ ∀ H', Q (.bl true) H'
def Slaw : List D → D → Prop := fun ds d => ∃ ns : List Int, ds = [.scr ns] ∧ ns.length ≤ 63 ∧ (∀ z ∈ ns, Builtin.Int.intBits z ≤ 1048576) ∧ d = .bl true
theorem law_imp {K : PySem.W.Frag} : ∀ vs H Q E, spLaw K vs H Q E → spR K Slaw vs H Q E := fun vs H Q E ⟨a, ns, e, h, h1, h2, q⟩ =>
  ⟨H, [.scr ns], .bl true, Same.refl H, by rw [e]; exact .cons (.scr h) .nil, ⟨ns, rfl, h1, h2, rfl⟩, fun v F' H' g r => by cases r; exact q H'⟩
theorem fnLaw {P : Program} {w : World} {K : PySem.W.Frag} {mg : Str → Option Value} {base : Heap} {x qual : Str} {st : Stmt} {f : Addr} {fd : FuncData} {N ps : List Str} {k : Nat} (F : Fun K x qual st f fd) (sc : FnScope N ps (defScope st)) (h1 : ps.length = 1)
    (body : ∀ (cdv : Value) (A : Around) (outer : List Env) (s : Shared) (H : Hp) (E : XK), Room k (A.deeper (envOfC qual (defScope st) s.heap.objs.size f cdv)) →
      ∃ t, PSs (cxOf CX0 P w K mg base N qual (defScope st) f cdv A outer s H E).nox (defBody st) t ∧ ∀ ns : List Int, ns.length ≤ 63 → (∀ z ∈ ns, Builtin.Int.intBits z ≤ 1048576) → Sd K E0 t (startG N [.scr ns]) (.rt (.bl true))) : FnOk P w K mg base CX0 (k + 1) f fd ps (spLaw K) :=
  (fnR (S := Slaw) F sc (fun ds d h => by obtain ⟨ns, rfl, _⟩ := h; exact h1.symm) fun cdv A outer s H E hr => by
    obtain ⟨t, ht, hd⟩ := body cdv A outer s H E hr
    exact ⟨t, ht, fun ds d h => by obtain ⟨ns, rfl, a, b, rfl⟩ := h; exact hd ns a b⟩).imp law_imp
end DL

namespace DL
open PySem PySem.Spec PyProof.Rows L2
/-! ### instances: fields, making one -/
def putD (f : Str) (d : D) : List (Str × D) → List (Str × D)
  | [] => [(f, d)]
  | (g, x) :: r => if g = f then (g, d) :: r else (g, x) :: putD f d r
theorem putD_len {f : Str} {d : D} {n : Nat} : ∀ {gs : List (Str × D)}, gs.length < n → n < 1000 → (putD f d gs).length < n + 1 := by
  intro gs h hn
  induction gs generalizing n with
  | nil => show 1 < n + 1; simp only [List.length_nil] at h; omega
  | cons g gs ih =>
    show (if g.1 = f then (g.1, d) :: gs else (g.1, g.2) :: putD f d gs).length < n + 1
    split
    · simp only [List.length_cons] at h ⊢; omega
    · simp only [List.length_cons] at h ⊢
      have := ih (n := n - 1) (by omega) (by omega)
      omega
section
variable {K : PySem.W.Frag} {H : Hp}
theorem RpF.len : ∀ {vs : List (Str × V)} {ds : List (Str × D)}, RpF K H vs ds → vs.length = ds.length
  | _, _, .nil => rfl
  | _, _, .cons _ t => congrArg Nat.succ (RpF.len t)
theorem RpF.put {f : Str} {v : V} {d : D} (r : Rp K H v d) : ∀ {vs : List (Str × V)} {ds : List (Str × D)}, RpF K H vs ds → RpF K H (putF f v vs) (putD f d ds)
  | _, _, .nil => .cons r .nil
  | (g, x) :: vs, (_, y) :: ds, .cons h t => by
    show RpF K H (if g = f then (g, v) :: vs else (g, x) :: putF f v vs) (if g = f then (g, d) :: ds else (g, y) :: putD f d ds)
    by_cases e : g = f
    · rw [if_pos e, if_pos e]; exact .cons r t
    · rw [if_neg e, if_neg e]; exact .cons h (RpF.put r t)
end
section
variable {K : PySem.W.Frag} {E : XK} {Γ : Gam} {d : D} {ds : List D} {te : TE} {tas : TA} {C C' : Addr} {gs : List (Str × D)} {f : Str} {S : List D → D → Prop} {T : List D → Addr → Prop}
theorem ed_fld (h : Ed K te Γ (.ins C gs)) (c : Cls K C) (n : NoAttr K C f) (l : gs.lookup f = some d) : Ed K (tFld K te f) Γ d := fun F0 H0 F H σ ok Q q => h F0 H0 F H σ ok _ fun v F1 H1 g1 r1 => by
  cases r1 with
  | @ins a _ dx fs _ ha hf =>
    obtain ⟨v, hv, rv⟩ := hf.look l
    exact ⟨a, C, dx, fs, v, rfl, g1.s _ _ ha, c, n, hv, q v F1 H1 g1 rv⟩
/-- a field of an instance that this frame owns -/
theorem ed_fldO (i : Nat) {q : Option Addr} (hi : Γ[i]? = some (.ob q C gs)) (c : Cls K C) (n : NoAttr K C f) (l : gs.lookup f = some d) : Ed K (tFld K (tVar i) f) Γ d := fun F0 H0 F H σ ok Q k => by
  obtain ⟨p, ho, a, b, _, _, r, _⟩ := ok.ow i _ hi
  cases r with
  | @ins _ _ dx fs _ hf =>
    obtain ⟨v, hv, rv⟩ := hf.look l
    exact ⟨_, a, p, C, dx, fs, v, rfl, b, c, n, hv, k v F H (Gr.refl ok.g.s) rv⟩
theorem sd_fld (i : Nat) {q : Option Addr} (hi : Γ[i]? = some (.ob q C gs)) (h : Ed K te Γ d) (c : Cls K C) (n : NoAttr K C f) (hl : gs.length < 1000) : Sd K E (sFld K (tVar i) te f) Γ (.nx (Γ.set i (.ob q C (putD f d gs)))) := fun F0 H0 F H σ De ok fin =>
  h F0 H0 F H σ ok _ fun v F1 H1 g1 r1 => by
    obtain ⟨p, ho, a, b, c', e', r, at_⟩ := ok.ow i _ hi
    obtain ⟨c1, b1⟩ := g1.out c' b
    have ok1 := ok.grow g1
    generalize ew : (Ow.ins q C gs) = w at r at_
    cases r with
    | lst r => cases ew
    | @ins _ _ dx fs _ hf =>
      cases ew
      refine ⟨_, a, p, C, dx, fs, rfl, b1, c, n, by rw [hf.len]; exact hl, ?_⟩
      exact fin F1 _ σ g1.f (ok1.upOw hi a (.ins ((hf.mono g1.f).put r1)) (by cases q with | none => trivial | some q => exact at_))
/-- what __init__ promises: called with a new instance and ds, it leaves the instance as d -/
def spI (K : PySem.W.Frag) (C : Addr) (S : List D → D → Prop) (T : List D → Addr → Prop) : Sp := fun vs H Q E => ∃ F Hc x dx vs' ds, vs = .ref x :: vs' ∧ Same F Hc ∧ Hc x = none ∧ Hc dx = none ∧ dx ≠ x ∧ H = upd (upd Hc dx (.own x)) x (.ins C dx []) ∧ RpA K F vs' ds ∧
  ((∃ d, S ds d ∧ ∀ F' H', Gr F Hc F' H' → Rp K F' (.ref x) d → Q .non H') ∨ (∃ C', T ds C' ∧ ∀ F' H', Gr F Hc F' H' → E (.ref C') none H'))
theorem ed_make {E' : XK} (h : Ea K tas Γ ds) (hs : S ds d) : Ed K (tMake C (spI K C S T) [] E' tas) Γ d := fun F0 H0 F H σ ok Q q => h F0 H0 F H σ ok _ fun vs F1 H1 g1 r1 => fun x dx hx hdx ne =>
  ⟨F1, H1, x, dx, vs, ds, by rw [List.append_nil], g1.s, hx, hdx, ne, rfl, r1, .inl ⟨d, hs, fun F2 H2 g2 r2 => ⟨rfl, q _ F2 H2 (g1.trans g2) r2⟩⟩⟩
theorem xd_make (h : Ea K tas Γ ds) (hs : T ds C') : Xd K E (tMake C (spI K C S T) [] E tas) Γ C' := fun F0 H0 F H σ ok fin Q => h F0 H0 F H σ ok _ fun vs F1 H1 g1 r1 => fun x dx hx hdx ne =>
  ⟨F1, H1, x, dx, vs, ds, by rw [List.append_nil], g1.s, hx, hdx, ne, rfl, r1, .inr ⟨C', hs, fun F2 H2 g2 => fin F2 H2 (g1.trans g2)⟩⟩
end
def startI (N : List Str) (x C : Addr) (ds : List D) : Gam := .ob (some x) C [] :: (ds.map .fz ++ List.replicate (N.length - ds.length - 1) .no)
section
variable {K : PySem.W.Frag} {E : XK} {d : D} {ds : List D} {N : List Str} {F Hc : Hp} {vs : List V} {ts : TS} {Q : VK} {x dx C : Addr}
theorem ok_startI (e : Same F Hc) (hx : Hc x = none) (hdx : Hc dx = none) (ne : dx ≠ x) (r : RpA K F vs ds) : Ok K F Hc F (upd (upd Hc dx (.own x)) x (.ins C dx [])) (L2.start N (.ref x :: vs)) (startI N x C ds) := by
  have hl := r.len
  have sH : Same Hc (upd (upd Hc dx (.own x)) x (.ins C dx [])) := fun b o z => by
    rw [upd_ne (ne_of_none z hx), upd_ne (ne_of_none z hdx)]
    exact z
  have noOw : ∀ (i : Nat) (es : Ow), ¬ (ds.map Sl.fz ++ List.replicate (N.length - ds.length - 1) Sl.no)[i]? = some (.own es) := fun i es h => by
    rw [List.getElem?_append] at h
    split at h
    · rw [List.getElem?_map] at h
      cases q : ds[i]? with
      | none => rw [q] at h; cases h
      | some x => rw [q] at h; cases h
    · rw [List.getElem?_replicate] at h
      split at h <;> cases h
  have z : ∀ (i : Nat) (es : Ow), (startI N x C ds)[i]? = some (.own es) → i = 0 ∧ es = .ins (some x) C [] := fun i es h => by
    cases i with
    | zero => cases h; exact ⟨rfl, rfl⟩
    | succ i => exact absurd h (noOw i es)
  refine ⟨⟨Same.refl F, e.trans sH, sH, fun _ h _ => h⟩, ?_, fun i d h => ?_, fun i es h => ?_, fun i j es fs p hij h1 h2 => ?_⟩
  · unfold startI L2.start
    simp only [List.length_append, List.length_map, List.length_replicate, List.length_cons, hl]
    omega
  · cases i with
    | zero => cases h
    | succ i =>
      have h' : (ds.map Sl.fz ++ List.replicate (N.length - ds.length - 1) Sl.no)[i]? = some (.fz d) := h
      rw [List.getElem?_append] at h'
      split at h'
      · rename_i hi
        rw [List.length_map] at hi
        rw [List.getElem?_map] at h'
        cases q : ds[i]? with
        | none => rw [q] at h'; cases h'
        | some x =>
          rw [q] at h'
          cases h'
          obtain ⟨v, hv, rv⟩ := r.get q
          refine ⟨v, ?_, rv⟩
          unfold L2.start
          rw [List.getElem?_append_left (by rw [List.length_map, List.length_cons, hl]; omega), List.getElem?_map, List.getElem?_cons_succ, hv]
          rfl
      · rw [List.getElem?_replicate] at h'
        split at h' <;> cases h'
  · obtain ⟨rfl, rfl⟩ := z i es h
    exact ⟨x, .ins C dx [], rfl, upd_same, e.free hx, hx, .ins .nil, rfl⟩
  · exact absurd ((z i es h1).1.trans (z j fs h2).1.symm) hij
end
section
variable {P : Program} {w : World} {K : PySem.W.Frag} {mg : Str → Option Value} {base : Heap} {x qual : Str} {st : Stmt} {f C : Addr} {fd : FuncData} {N ps : List Str} {k : Nat} {S : List D → D → Prop} {T : List D → Addr → Prop}
/-- __init__ that does not raise -/
theorem fnI (F : Fun K x qual st f fd) (sc : FnScope N ps (defScope st)) (len : ∀ ds d, S ds d → ds.length + 1 = ps.length)
    (body : ∀ (cdv : Value) (A : Around) (outer : List Env) (s : Shared) (H : Hp) (E : XK), Room k (A.deeper (envOfC qual (defScope st) s.heap.objs.size f cdv)) →
      ∃ t, PSs (cxOf CX0 P w K mg base N qual (defScope st) f cdv A outer s H E).nox (defBody st) t ∧ ∀ ds d, S ds d → ∀ x, ∃ Γ gs, Γ[0]? = some (.ob (some x) C gs) ∧ d = .ins C gs ∧ Sd K E0 t (startI N x C ds) (.nx Γ)) : FnOk P w K mg base CX0 (k + 1) f fd ps (spI K C S fun _ _ => False) :=
  F.ok sc (fun vs H Q E h => by
    obtain ⟨F', Hc, x, dx, vs', ds, rfl, e, hx, hdx, ne, rfl, r, ⟨d, hs, q⟩ | ⟨_, z, _⟩⟩ := h
    · rw [List.length_cons, r.len]
      exact len ds d hs
    · exact z.elim) fun cdv A outer s H vs Q E hr h => by
    obtain ⟨F', Hc, x, dx, vs', ds, rfl, e, hx, hdx, ne, rfl, r, ⟨d, hs, q⟩ | ⟨_, z, _⟩⟩ := h
    · obtain ⟨t, ht, hd⟩ := body cdv A outer s _ E hr
      obtain ⟨Γ, gs, h0, rfl, hsd⟩ := hd ds d hs x
      refine ⟨t, ht, hsd F' Hc F' _ _ _ (ok_startI e hx hdx ne r) fun F1 H1 σ1 e1 ok1 => ?_⟩
      obtain ⟨F2, g2, _, _, p, hp, rp⟩ := ok1.freeze h0
      cases (show x = p from hp)
      exact q F2 H1 g2 rp
    · exact z.elim
theorem fnIX (F : Fun K x qual st f fd) (sc : FnScope N ps (defScope st)) (len : ∀ ds d, S ds d → ds.length + 1 = ps.length) (len2 : ∀ ds C, T ds C → ds.length + 1 = ps.length)
    (body : ∀ (cdv : Value) (A : Around) (outer : List Env) (s : Shared) (H : Hp) (E : XK), Room k (A.deeper (envOfC qual (defScope st) s.heap.objs.size f cdv)) →
      ∃ t, PSs (cxOf (L2.CX P w) P w K mg base N qual (defScope st) f cdv A outer s H E) (defBody st) t ∧ (∀ ds d, S ds d → ∀ x, ∃ Γ gs, Γ[0]? = some (.ob (some x) C gs) ∧ d = .ins C gs ∧ Sd K E t (startI N x C ds) (.nx Γ)) ∧ (∀ ds C', T ds C' → ∀ x, Sd K E t (startI N x C ds) (.ex C'))) :
      FnOk P w K mg base (L2.CX P w) (k + 1) f fd ps (spI K C S T) :=
  F.okX sc (fun vs H Q E h => by
    obtain ⟨F', Hc, x, dx, vs', ds, rfl, e, hx, hdx, ne, rfl, r, ⟨d, hs, q⟩ | ⟨C', hs, q⟩⟩ := h
    · rw [List.length_cons, r.len]
      exact len ds d hs
    · rw [List.length_cons, r.len]
      exact len2 ds C' hs) fun cdv A outer s H vs Q E hr h => by
    obtain ⟨F', Hc, x, dx, vs', ds, rfl, e, hx, hdx, ne, rfl, r, h⟩ := h
    obtain ⟨t, ht, hd, hx2⟩ := body cdv A outer s _ E hr
    refine ⟨t, ht, ?_⟩
    rcases h with ⟨d, hs, q⟩ | ⟨C', hs, q⟩
    · obtain ⟨Γ, gs, h0, rfl, hsd⟩ := hd ds d hs x
      refine hsd F' Hc F' _ _ _ (ok_startI e hx hdx ne r) fun F1 H1 σ1 e1 ok1 => ?_
      obtain ⟨F2, g2, _, _, p, hp, rp⟩ := ok1.freeze h0
      cases (show x = p from hp)
      exact q F2 H1 g2 rp
    · exact hx2 ds C' hs x F' Hc F' _ _ _ (ok_startI e hx hdx ne r) q
end
/-- a class that makes instances by its own __init__ -/
structure Ci (P : Program) (w : World) (K : PySem.W.Frag) (mg : Str → Option Value) (base : Heap) (CX : CXT) (k : Nat) (x : Str) (C : Addr) (sp : Sp) : Prop where
  ex : ∃ (f : Addr) (fd : FuncData) (ps : List Str), Mk K C f ∧ FnOk P w K mg base CX k f fd ps sp ∧ mg x = some (.ref C) ∧ Binds K fd ps []
section
variable {X : Cx} {k j : Nat} {x : Str} {sp : Sp} {p pos : Pos} {e : Expr} {es : List Expr} {t : TA} {C : Addr}
theorem pci (c : Ci X.prog X.w X.K X.mg X.base CX0 k x C sp) (hr : Room j X.A) (hk : k + 1 ≤ j) (hg : Gl X x) (ha : PA X (e :: es) t)
    (hdb : (x == ("__debug__" : Str)) = false := by decide) (he : starEach (e :: es) X.env = (false, eval e X.env) :: starEach es X.env := by rfl) (hpl : (backTo pos (starEach es X.env)).any (·.1) = false := by rfl) :
    PE X (.Call (.Name x p) (e :: es) [] pos) (tMake C sp [] E0 t) := by
  obtain ⟨f, fd, ps, M, F, hm, b⟩ := c.ex
  exact pe_make M F (hr.mono hk) hg hm b .nil pass0 ha hdb he hpl
theorem pciX (c : Ci X.prog X.w X.K X.mg X.base (L2.CX X.prog X.w) k x C sp) (hr : Room j X.A) (hk : k + 1 ≤ j) (hg : Gl X x) (ha : PA X (e :: es) t)
    (hdb : (x == ("__debug__" : Str)) = false := by decide) (he : starEach (e :: es) X.env = (false, eval e X.env) :: starEach es X.env := by rfl) (hpl : (backTo pos (starEach es X.env)).any (·.1) = false := by rfl) :
    PE X (.Call (.Name x p) (e :: es) [] pos) (tMake C sp [] E0 t) := by
  obtain ⟨f, fd, ps, M, F, hm, b⟩ := c.ex
  exact pe_make M F (hr.mono hk) hg hm b .nil passL ha hdb he hpl
theorem pciR {E : XK} (c : Ci X.prog X.w X.K X.mg X.base (L2.CX X.prog X.w) k x C sp) (hr : Room j X.A) (hk : k + 1 ≤ j) (hg : Gl X x) (hx : Passes (L2.CX X.prog X.w) X E) (ha : PA X (e :: es) t)
    (hdb : (x == ("__debug__" : Str)) = false := by decide) (he : starEach (e :: es) X.env = (false, eval e X.env) :: starEach es X.env := by rfl) (hpl : (backTo pos (starEach es X.env)).any (·.1) = false := by rfl) :
    PE X (.Call (.Name x p) (e :: es) [] pos) (tMake C sp [] E t) := by
  obtain ⟨f, fd, ps, M, F, hm, b⟩ := c.ex
  exact pe_make M F (hr.mono hk) hg hm b .nil hx ha hdb he hpl
end
/-- a class's own __init__, a method: as the top has made them -/
structure Di (K : PySem.W.Frag) (C : Addr) (x qual : Str) (ps : List Str) (st : Stmt) : Prop where
  ex : ∃ (f : Addr) (fd : FuncData), Mk K C f ∧ Fun K x qual st f fd ∧ Binds K fd ps []
structure Dm (K : PySem.W.Frag) (C : Addr) (x qual : Str) (ps : List Str) (st : Stmt) : Prop where
  ex : ∃ (f : Addr) (fd : FuncData), Meth K C x f ∧ Fun K x qual st f fd ∧ Binds K fd ps []
section
variable {P : Program} {w : World} {K : PySem.W.Frag} {mg : Str → Option Value} {base : Heap} {x m qual : Str} {st : Stmt} {C : Addr} {N ps : List Str} {k : Nat} {S : List D → D → Prop} {T : List D → Addr → Prop}
theorem ciI (D : Di K C m qual ps st) (hm : mg x = some (.ref C)) (sc : FnScope N ps (defScope st)) (len : ∀ ds d, S ds d → ds.length + 1 = ps.length)
    (body : ∀ (f : Addr) (cdv : Value) (A : Around) (outer : List Env) (s : Shared) (H : Hp) (E : XK), Room k (A.deeper (envOfC qual (defScope st) s.heap.objs.size f cdv)) →
      ∃ t, PSs (cxOf CX0 P w K mg base N qual (defScope st) f cdv A outer s H E).nox (defBody st) t ∧ ∀ ds d, S ds d → ∀ x, ∃ Γ gs, Γ[0]? = some (.ob (some x) C gs) ∧ d = .ins C gs ∧ Sd K E0 t (startI N x C ds) (.nx Γ)) : Ci P w K mg base CX0 (k + 1) x C (spI K C S fun _ _ => False) := by
  obtain ⟨f, fd, M, F, b⟩ := D.ex
  exact ⟨f, fd, ps, M, fnI F sc len (body f), hm, b⟩
theorem ciX (D : Di K C m qual ps st) (hm : mg x = some (.ref C)) (sc : FnScope N ps (defScope st)) (len : ∀ ds d, S ds d → ds.length + 1 = ps.length) (len2 : ∀ ds C, T ds C → ds.length + 1 = ps.length)
    (body : ∀ (f : Addr) (cdv : Value) (A : Around) (outer : List Env) (s : Shared) (H : Hp) (E : XK), Room k (A.deeper (envOfC qual (defScope st) s.heap.objs.size f cdv)) →
      ∃ t, PSs (cxOf (L2.CX P w) P w K mg base N qual (defScope st) f cdv A outer s H E) (defBody st) t ∧ (∀ ds d, S ds d → ∀ x, ∃ Γ gs, Γ[0]? = some (.ob (some x) C gs) ∧ d = .ins C gs ∧ Sd K E t (startI N x C ds) (.nx Γ)) ∧ (∀ ds C', T ds C' → ∀ x, Sd K E t (startI N x C ds) (.ex C'))) : Ci P w K mg base (L2.CX P w) (k + 1) x C (spI K C S T) := by
  obtain ⟨f, fd, M, F, b⟩ := D.ex
  exact ⟨f, fd, ps, M, fnIX F sc len len2 (body f), hm, b⟩
end
theorem pe_globI {X : Cx} {x : Str} {i : Int} {pos : Pos} (hg : Gl X x) (hm : ∃ t, X.mg x = some (.int i t)) (hd : (x == ("__debug__" : Str)) = false := by decide) : PE X (.Name x pos) (tC (.int i)) := by
  obtain ⟨t, h⟩ := hm
  exact pe_glob hg h ⟨t, rfl⟩ hd
theorem pe_globS {X : Cx} {x y : Str} {pos : Pos} (hg : Gl X x) (hm : ∃ t, X.mg x = some (.str y t)) (hd : (x == ("__debug__" : Str)) = false := by decide) : PE X (.Name x pos) (tC (.str y)) := by
  obtain ⟨t, h⟩ := hm
  exact pe_glob hg h ⟨t, rfl⟩ hd
/-- a pair of intL that the top made -/
theorem sqt_pair {K : PySem.W.Frag} {a : Addr} {od : Option Addr} {i j : Int} {t u : Tok} {n : Nat} {sl : Array (Option Value)} (h : K.lookup a = some ⟨.type "tuple", od, .seq #[.int i t, .int j u] n, sl⟩) : ∀ H, SqT K H a [.int i, .int j] := fun H =>
  .inr ⟨_, _, _, h, rfl, rfl, (by show 2 ≤ sizeLine; decide), .cons ⟨_, rfl⟩ (.cons ⟨_, rfl⟩ .nil)⟩
theorem ed_pair {K : PySem.W.Frag} {a : Addr} {i j : Int} {Γ : Gam} (h : ∀ H, SqT K H a [.int i, .int j]) : Ed K (tC (.ref a)) Γ (.tup [.int i, .int j]) := ed_c fun F => .tup (h F) (.cons (.int i) (.cons (.int j) .nil))
theorem Ei.is {K : PySem.W.Frag} {wi : TI} {Γ : Gam} {ds es : List D} (h : Ei K wi Γ ds) (e : ds = es) : Ei K wi Γ es := e ▸ h
/-! a def that ends without a return: None -/
section
variable {P : Program} {w : World} {K : PySem.W.Frag} {mg : Str → Option Value} {base : Heap} {x : Str} {st : Stmt} {N ps : List Str} {k : Nat} {S : List D → D → Prop} {T : List D → Addr → Prop}
theorem clXN (D : Df K mg x ps st) (sc : FnScope N ps (defScope st)) (len : ∀ ds d, S ds d → ds.length = ps.length) (len2 : ∀ ds C, T ds C → ds.length = ps.length)
    (body : ∀ (f : Addr) (cdv : Value) (A : Around) (outer : List Env) (s : Shared) (H : Hp) (E : XK), Room k (A.deeper (envOfC x (defScope st) s.heap.objs.size f cdv)) →
      ∃ t, PSs (cxOf (L2.CX P w) P w K mg base N x (defScope st) f cdv A outer s H E) (defBody st) t ∧ (∀ ds d, S ds d → d = .non ∧ ∃ Γ, Sd K E t (startG N ds) (.nx Γ)) ∧ (∀ ds C, T ds C → Sd K E t (startG N ds) (.ex C))) : Cl P w K mg base (L2.CX P w) (k + 1) x (spX K S T) := by
  obtain ⟨f, fd, F, hm, b⟩ := D.ex
  refine ⟨f, fd, ps, ?_, hm, F.kp, b⟩
  exact F.okX sc (fun vs H Q E h => by
    obtain ⟨F', ds, e, r, ⟨d, hs, q⟩ | ⟨C, hs, q⟩⟩ := h
    · rw [r.len]
      exact len ds d hs
    · rw [r.len]
      exact len2 ds C hs) fun cdv A outer s H vs Q E hr h => by
    obtain ⟨F', ds, e, r, h⟩ := h
    obtain ⟨t, ht, hd, hx⟩ := body f cdv A outer s H E hr
    refine ⟨t, ht, ?_⟩
    rcases h with ⟨d, hs, q⟩ | ⟨C, hs, q⟩
    · obtain ⟨rfl, Γ, hn⟩ := hd ds d hs
      exact run_nx hn e r q
    · exact run_ex (hx ds C hs) e r q
end
/-! ### list(x); the place of a sign -/
def rListA (K : PySem.W.Frag) : List V → Hp → VK → Prop := fun xs H Q => ∃ p ys, xs = [.ref p] ∧ (SqL K H p ys ∨ SqT K H p ys) ∧ ∀ l, H l = none → Q (.ref l) (upd H l (.lst ys))
theorem callList {X : Cx} : CallR X (.type "list") (rListA X.K) := call_list_of
def rIndexC : V → List V → Hp → VK → Prop := fun x xs H Q => ∃ (a b : Str) (k : Nat), x = .str a ∧ xs = [.str b] ∧ Txt.index0 a b = some k ∧ Q (.int (k : Nat)) H
theorem mt_indexC {X : Cx} : MtR X "str.index" rIndexC := by
  intro pins s σ H x xs v us Q I rx rs h
  obtain ⟨a, b, k, rfl, rfl, hk, hq⟩ := h
  obtain ⟨t, rfl⟩ := rx
  cases rs with
  | cons r1 rs =>
    cases rs
    obtain ⟨u, rfl⟩ := r1
    cases q : Builtin.Str.occurrences a b 0 a.length 1 with
    | nil => unfold Txt.index0 at hk; rw [q] at hk; cases hk
    | cons k' rest =>
      have : k' = k := by unfold Txt.index0 at hk; rw [q] at hk; exact Option.some.inj hk
      subst this
      exact PySem.SC.index q ⟨.int (k' : Nat), H, I.tok _, ⟨_, rfl⟩, hq⟩
theorem index0_one {x : Str} {c k : Nat} (h : x.cps.toList[k]? = some c) (hn : ∀ j, j < k → x.cps.toList[j]? ≠ some c) : Txt.index0 x ⟨#[c]⟩ = some k := by
  have at' : ∀ i, StrLaws.At x ⟨#[c]⟩ x.length i ↔ x.cps.toList[i]? = some c := fun i => StrLaws.subAt_one x c i
  unfold Txt.index0
  rcases StrLaws.occ_head x ⟨#[c]⟩ 1 (Nat.le_refl 1) with ⟨_, h2⟩ | ⟨i, r, h1, h2, h3⟩
  · exact absurd ((at' k).mpr h) (h2 k)
  · rw [h1]
    have e1 := (at' i).mp h2
    rcases Nat.lt_trichotomy i k with z | z | z
    · exact absurd e1 (hn i z)
    · rw [z]; rfl
    · exact absurd ((at' k).mpr h) (h3 k z)
section
variable {K : PySem.W.Frag} {Γ : Gam} {to te : TE} {a b : Str} {k : Nat} {ds : List D}
theorem ed_index (h : Ed K to Γ (.str a)) (h2 : Ed K te Γ (.str b)) (hk : Txt.index0 a b = some k) : Ed K (tM1 rIndexC to te) Γ (.int (k : Nat)) := fun F0 H0 F H σ ok Q q => h F0 H0 F H σ ok _ fun v F1 H1 g1 r1 => by
  cases r1
  refine ⟨⟨a, rfl⟩, h2 F0 H0 F1 H1 σ (ok.grow g1) _ fun w F2 H2 g2 r2 => ?_⟩
  cases r2
  exact ⟨a, b, k, rfl, rfl, hk, q _ F2 H2 (g1.trans g2) (.int _)⟩
theorem rc_listL : RcD K (rListA K) [.lst ds] (.lst ds) := fun F H vs s r Q q => by
  cases r with
  | cons r rr =>
    cases rr
    cases r with
    | @lst a xs _ ha ra =>
      refine ⟨a, xs, rfl, .inl (.inl (.inl (s _ _ ha))), fun l hl => ?_⟩
      have g := Gr.new (o := .lst xs) s hl
      exact q _ _ _ g (.lst upd_same (ra.mono g.f))
def rInC : R2 := fun x y H Q => ∃ (c : Nat) (z : Str), x = .str ⟨#[c]⟩ ∧ y = .str z ∧ Q (.bl (decide (c ∈ z.cps.toList))) H
theorem r2_in {c : Nat} {z : Str} : R2D K (fun x y H Q => ∃ (c : Nat) (z : Str), x = .str ⟨#[c]⟩ ∧ y = .str z ∧ Q (.bl (decide (c ∈ z.cps.toList))) H) (.str ⟨#[c]⟩) (.str z) (.bl (decide (c ∈ z.cps.toList))) := fun F H v w s rv rw Q q => by
  cases rv; cases rw
  exact ⟨c, z, rfl, rfl, q _ F H (Gr.refl s) (.bl _)⟩
end
/-! ### loops by places -/
section
variable {K : PySem.W.Frag} {E : XK} {g : TG} {ts : TS} {α : Type}
theorem loopF_ix (xs : List α) (enc : α → D) (st : Nat → Gam) (h : ∀ i (hi : i < xs.length), ∃ js Γ1, Eg K g js (enc xs[i]) (st i) Γ1 ∧ Sd K E ts Γ1 (.lp (st (i + 1)))) : LoopF K E g ts (xs.map enc) (st 0) (.nx (st xs.length)) := by
  suffices main : ∀ n k, k + n = xs.length → LoopF K E g ts ((xs.drop k).map enc) (st k) (.nx (st xs.length)) by
    have z := main xs.length 0 (by omega)
    rw [List.drop_zero] at z
    exact z
  intro n
  induction n with
  | zero =>
    intro k hk
    have e : k = xs.length := by omega
    subst e
    rw [List.drop_length]
    exact .done
  | succ n ih =>
    intro k hk
    have hlt : k < xs.length := by omega
    obtain ⟨js, Γ1, a, b⟩ := h k hlt
    rw [List.drop_eq_getElem_cons hlt, List.map_cons]
    exact .step a b (ih (k + 1) (by omega))
/-- over range(n) -/
theorem loopF_rg (n : Nat) (st : Nat → Gam) (h : ∀ i, i < n → ∃ js Γ1, Eg K g js (.int (i : Nat)) (st i) Γ1 ∧ Sd K E ts Γ1 (.lp (st (i + 1)))) : LoopF K E g ts (rg 0 n) (st 0) (.nx (st n)) := by
  have z := loopF_ix (K := K) (E := E) (g := g) (ts := ts) (List.range n) (fun i => D.int (0 + (i : Nat))) st fun i hi => by
    rw [List.length_range] at hi
    obtain ⟨js, Γ1, a, b⟩ := h i hi
    exact ⟨js, Γ1, by rw [List.getElem_range, Int.zero_add]; exact a, b⟩
  rw [List.length_range] at z
  exact z
end
def intL (ts : List Int) : D := .lst (ts.map .int)
section
variable {K : PySem.W.Frag} {Γ : Gam} {g : TG} {te tn : TE} {vs : List Nat}
/-- [e for i in range(n)], n told by a term -/
theorem ed_rg (n : Nat) (f : Nat → D) (i : Nat) (hv : i ∈ vs) (hw : Ed K tn Γ (.int (n : Nat))) (hl : n ≤ 100000)
    (h : ∀ j, j < n → Ed K te ((wipeG Γ vs).set i (.fz (.int (j : Nat)))) (f j)) : Ed K (tLc (iRng1 (tCons tn tNil)) (gName i) tYes te vs) Γ (.lst ((List.range n).map f)) :=
  ed_map (List.range n) (fun j => .int (0 + (j : Nat))) f (Ei.is (ei_rng1 (n := (n : Int)) (ea_cons hw ea_nil) (by omega)) (by rw [Int.toNat_natCast]; rfl)) (by rw [List.length_range]; exact hl) fun j hj =>
    ⟨[i], _, eg_name i, by simpa using hv, by rw [Int.zero_add]; exact h j (List.mem_range.mp hj)⟩
end
/-! a def whose result is a new list -/
section
variable {P : Program} {w : World} {K : PySem.W.Frag} {mg : Str → Option Value} {base : Heap} {x : Str} {st : Stmt} {N ps : List Str} {k : Nat} {S : List D → List D → Prop} {T : List D → Addr → Prop}
theorem clW (D : Df K mg x ps st) (sc : FnScope N ps (defScope st)) (len : ∀ ds d, S ds d → ds.length = ps.length)
    (body : ∀ (f : Addr) (cdv : Value) (A : Around) (outer : List Env) (s : Shared) (H : Hp) (E : XK), Room k (A.deeper (envOfC x (defScope st) s.heap.objs.size f cdv)) →
      ∃ t, PSs (cxOf CX0 P w K mg base N x (defScope st) f cdv A outer s H E).nox (defBody st) t ∧ ∀ ds es, S ds es → Sd K E0 t (startG N ds) (.rw es)) : Cl P w K mg base CX0 (k + 1) x (spW K S) := by
  obtain ⟨f, fd, F, hm, b⟩ := D.ex
  refine ⟨f, fd, ps, ?_, hm, F.kp, b⟩
  exact F.ok sc (fun vs H Q E h => by
    obtain ⟨F', ds, es, e, r, hs, q⟩ := h
    rw [r.len]
    exact len ds es hs) fun cdv A outer s H vs Q E hr h => by
    obtain ⟨F', ds, es, e, r, hs, q⟩ := h
    obtain ⟨t, ht, hd⟩ := body f cdv A outer s H E hr
    exact ⟨t, ht, run_rw (hd ds es hs) e r q⟩
theorem clXW (D : Df K mg x ps st) (sc : FnScope N ps (defScope st)) (len : ∀ ds d, S ds d → ds.length = ps.length) (len2 : ∀ ds C, T ds C → ds.length = ps.length)
    (body : ∀ (f : Addr) (cdv : Value) (A : Around) (outer : List Env) (s : Shared) (H : Hp) (E : XK), Room k (A.deeper (envOfC x (defScope st) s.heap.objs.size f cdv)) →
      ∃ t, PSs (cxOf (L2.CX P w) P w K mg base N x (defScope st) f cdv A outer s H E) (defBody st) t ∧ (∀ ds es, S ds es → Sd K E t (startG N ds) (.rw es)) ∧ (∀ ds C, T ds C → Sd K E t (startG N ds) (.ex C))) : Cl P w K mg base (L2.CX P w) (k + 1) x (spXW K S T) := by
  obtain ⟨f, fd, F, hm, b⟩ := D.ex
  refine ⟨f, fd, ps, ?_, hm, F.kp, b⟩
  exact F.okX sc (fun vs H Q E h => by
    obtain ⟨F', ds, e, r, ⟨d, hs, q⟩ | ⟨C, hs, q⟩⟩ := h
    · rw [r.len]
      exact len ds d hs
    · rw [r.len]
      exact len2 ds C hs) fun cdv A outer s H vs Q E hr h => by
    obtain ⟨F', ds, e, r, h⟩ := h
    obtain ⟨t, ht, hd, hx⟩ := body f cdv A outer s H E hr
    refine ⟨t, ht, ?_⟩
    rcases h with ⟨d, hs, q⟩ | ⟨C, hs, q⟩
    · exact run_rw (hd ds d hs) e r q
    · exact run_ex (hx ds C hs) e r q
end
theorem ew_is {K : PySem.W.Frag} {Γ : Gam} {te : TE} {ds es : List D} (h : Ew K te Γ ds) (e : ds = es) : Ew K te Γ es := e ▸ h
theorem clFalse {P : Program} {w : World} {K : PySem.W.Frag} {mg : Str → Option Value} {base : Heap} {x : Str} {st : Stmt} {ps : List Str} {S : List D → D → Prop} (D : Df K mg x ps st) (hS : ∀ ds d, ¬ S ds d) : Cl P w K mg base CX0 0 x (spR K S) := by
  obtain ⟨f, fd, F, hm, b⟩ := D.ex
  exact ⟨f, fd, ps, ⟨fun vs H Q E h => by obtain ⟨_, _, _, _, _, hs, _⟩ := h; exact (hS _ _ hs).elim, fun A outer s H args us vs Q E _ _ _ _ h => by obtain ⟨_, _, _, _, _, hs, _⟩ := h; exact (hS _ _ hs).elim⟩, hm, F.kp, b⟩
/-! what stands in an owned slot, looked at for a while -/
section
variable {K : PySem.W.Frag} {Γ : Gam} {t : TT} {te : TE} {b : Bool} {ow : Ow}
theorem et_tmp (i : Nat) (hi : Γ[i]? = some (.own ow)) (h : Et K t (Γ.set i (.fz ow.toD)) b) : Et K t Γ b := fun F0 H0 F H σ ok Q q => by
  obtain ⟨F', g, sf, ok', _⟩ := ok.freeze hi
  exact h F0 H0 F' H σ ok' Q fun F1 H1 g1 => q F H1 ⟨Same.refl F, ok.g.s.trans g1.h, g1.h, fun _ h _ => h⟩
theorem ed_tmpB (i : Nat) (hi : Γ[i]? = some (.own ow)) (h : Ed K te (Γ.set i (.fz ow.toD)) (.bl b)) : Ed K te Γ (.bl b) := fun F0 H0 F H σ ok Q q => by
  obtain ⟨F', g, sf, ok', _⟩ := ok.freeze hi
  exact h F0 H0 F' H σ ok' Q fun v F1 H1 g1 r => by
    cases r
    exact q _ F H1 ⟨Same.refl F, ok.g.s.trans g1.h, g1.h, fun _ h _ => h⟩ (.bl b)
end
theorem ew_listL {K : PySem.W.Frag} {Γ : Gam} {te : TE} {ds : List D} (h : Ed K te Γ (.lst ds)) : Ew K (tCB (rListA K) (tCons te tNil)) Γ ds := fun F0 H0 F H σ ok Q q => h F0 H0 F H σ ok _ fun v F1 H1 g1 r1 => by
  cases r1 with
  | @lst a xs _ ha ra =>
    refine ⟨a, xs, rfl, .inl (.inl (.inl (g1.s _ _ ha))), fun l hl => ?_⟩
    exact q l xs F1 _ (g1.trans (Gr.newO g1.s hl)) (g1.h.free hl) (g1.s.free hl) upd_same ra
/-! ### within a block of its own: readings told by K -/
section
variable {X : Cx} {K : PySem.W.Frag} {tg e : Expr} {wi wi' : TI} {te te' : TE} {g g' : TG}
theorem pi_cast (h : PI X tg e wi) (q : wi = wi') : PI X tg e wi' := q ▸ h
theorem pe_cast (h : PE X e te) (q : te = te') : PE X e te' := q ▸ h
theorem pg_cast (h : PG X e g) (q : g = g') : PG X e g' := q ▸ h
theorem ix_seqK (q : X.K = K) : IxR X (rIx K) := q ▸ ix_seq
theorem callLenK (q : X.K = K) : CallR X (.builtin "len") (rLenA K) := q ▸ callLen
theorem call_isiK (q : X.K = K) : CallR X (.builtin "isinstance") (rIsi K) := q ▸ call_isi
theorem callListK (q : X.K = K) : CallR X (.type "list") (rListA K) := q ▸ callList
theorem cr_allK (q : X.K = K) (hc : X.calm = true) : CallR X (.builtin "all") (rAll K) := q ▸ cr_all hc
theorem cr_sumK (q : X.K = K) (hc : X.calm = true) : CallR X (.builtin "sum") (rSum K) := q ▸ cr_sum hc
theorem op_eqDK (q : X.K = K) (hu : X.A.units + 64 < cLine) : OpR X (compareOp .Eq) (rEqD K) := q ▸ op_eqD hu
theorem op_neDK (q : X.K = K) (hu : X.A.units + 64 < cLine) : OpR X (compareOp .NotEq) (rNeD K) := q ▸ op_neD hu
theorem slAK (q : X.K = K) : SlR X (rSlA K) := q ▸ slA
end
end DL

namespace DL
open PySem PySem.Spec PyProof.Rows L2
/-! ### where no repr is under way: repr of data -/
def rRepr (K : PySem.W.Frag) : List V → Hp → VK → Prop := fun xs H Q => ∃ a d, xs = [.ref a] ∧ Dp K H (.ref a) d ∧ d.showable = true ∧ d.hasDict = false ∧ d.depth ≤ 60 ∧ d.shown.length ≤ sizeLine ∧ Q (.str d.shown) H
theorem call_reprD {X : Cx} (hg : X.A.guards = some []) (hu : X.A.units + 64 < cLine) : CallR X (.builtin "repr") (rRepr X.K) := by
  intro pins s σ H xs us Q I r h
  obtain ⟨a, d, rfl, hd, hs, hn, hdep, hz, q⟩ := h
  cases r with
  | cons r1 rs =>
    cases rs
    have e := r1
    cases (show _ = Value.ref a from e)
    obtain ⟨as, rd⟩ := Dp.reads I d _ _ hd (show RelV (.ref a) (.ref a) from rfl)
    exact repr_of_reads' rd hs (fun z => by rw [hn] at z; cases z) hg (by omega) (fun b o e => e) (fun h' u tk k => ⟨.str d.shown, H, I.kept k, ⟨_, rfl⟩, q⟩) hz
/-- a def's promise where no repr is under way -/
structure FnG (P : Program) (w : World) (K : PySem.W.Frag) (mg : Str → Option Value) (base : Heap) (k : Nat) (f : Addr) (fd : FuncData) (ps : List Str) (sp : Sp) : Prop where
  len : ∀ vs H Q E, sp vs H Q E → vs.length = ps.length
  run : ∀ (A : Around) (outer : List Env) (s : Shared) (H : Hp) (args : Args) (us : List Value) (vs : List V) (Q : VK) (E : XK), Room k A → A.guards = some [] → Env0 P w K mg base A outer s H → BindsTo s fd args (ps.zip us) → Vals vs us → sp vs H Q E →
    codeAny (model P w) A (.call (.ref f) args) (CR CX0 outer P w H s Q E) s
section
variable {P : Program} {w : World} {K : PySem.W.Frag} {mg : Str → Option Value} {base : Heap}
theorem fnG {x qual : Str} {st : Stmt} {f : Addr} {fd : FuncData} {N ps : List Str} {k : Nat} {S : List D → D → Prop} (F : Fun K x qual st f fd) (Sc : FnScope N ps (defScope st)) (len : ∀ ds d, S ds d → ds.length = ps.length)
    (body : ∀ (cdv : Value) (A : Around) (outer : List Env) (s : Shared) (H : Hp) (E : XK), A.guards = some [] → Room k (A.deeper (envOfC qual (defScope st) s.heap.objs.size f cdv)) →
      ∃ t, PSs (cxOf CX0 P w K mg base N qual (defScope st) f cdv A outer s H E).nox (defBody st) t ∧ ∀ ds d, S ds d → Sd K E0 t (startG N ds) (.rt d)) : FnG P w K mg base (k + 1) f fd ps (spR K S) := by
  have ln : ∀ vs H Q E, spR K S vs H Q E → vs.length = ps.length := fun vs H Q E h => by
    obtain ⟨F', ds, d, e, r, hs, q⟩ := h
    rw [r.len]
    exact len ds d hs
  obtain ⟨oc, od, kV, doc, pm, an, cdv, ct, osl, rfl, lk, hcd⟩ := F.ex
  refine ⟨ln, fun A outer s H args us vs Q E hr hG e0 hb r hsp => ?_⟩
  have hlv := ln _ _ _ _ hsp
  obtain ⟨F', ds, d, sF, rd, hs, q⟩ := hsp
  have KX : K.In s.heap := e0.mod.kin.keeps fun b o e => (e0.bs b o e).1
  have lim : s.heap.NoLimit := e0.mod.nolimit.keeps fun b o e => (e0.bs b o e).1
  have hkind : ∀ y ∈ ps.zip us, (defScope st).names.lookup y.1 = some .local ∨ ((defScope st).names.lookup y.1 = some .cell ∧ ((cellsFrom (s.heap.objs.size + 1) (defScope st).names []).lookup y.1).isSome = true) := by
    rintro ⟨n, v⟩ hy
    rcases Sc.par n (List.of_mem_zip hy).1 with z | z
    · exact .inl z
    · exact .inr ⟨z, PySem.W.cellsFrom_some _ _ _ (.inl z)⟩
  refine codeAny_call_function hr.depth (KX _ _ lk) rfl Sc.co Sc.gen rfl (PySem.W.codeRec_of KX hcd) (hb _ _ _ _ ?_)
  refine wpAny_newFunctionEnv_cells Sc.kind hkind fun env he s1 x => ?_
  subst he
  refine ⟨lim.keeps x.toInCall.keep, codeAny_func ?_⟩
  obtain ⟨t, ht, hq⟩ := body cdv A outer s H E hG (hr.deeper _)
  have I := inv_start (CX := CX0) (E := E) (f := f) (cd := cdv) Sc hr.hd e0 hlv r x
  refine wpAny_mono (ht.nox.run [] s1 (L2.start N vs) H _ I (run_rt (Q := Q) (hq ds d hs) sF rd q)) (fun fl s' hs => ?_) fun e s' hs => hs
  cases fl with
  | ret u =>
    obtain ⟨v, σ', H', J, rv, q'⟩ := hs
    exact ⟨v, H', J.os, J.bare, J.base, J.hok, rv, q'⟩
  | next =>
    obtain ⟨σ', H', J, q'⟩ := hs
    exact ⟨.non, H', J.os, J.bare, J.base, J.hok, rfl, q'⟩
  | brk =>
    obtain ⟨_, _, _, z⟩ := hs
    exact z.elim
  | cont =>
    obtain ⟨_, _, _, z⟩ := hs
    exact z.elim
theorem FnG.imp {f : Addr} {fd : FuncData} {ps : List Str} {k : Nat} {sp sp' : Sp} (F : FnG P w K mg base k f fd ps sp) (h : ∀ vs H Q E, sp' vs H Q E → sp vs H Q E) : FnG P w K mg base k f fd ps sp' :=
  ⟨fun vs H Q E z => F.len vs H Q E (h _ _ _ _ z), fun A outer s H args us vs Q E a b c d e z => F.run A outer s H args us vs Q E a b c d e (h _ _ _ _ z)⟩
end
structure ClG (P : Program) (w : World) (K : PySem.W.Frag) (mg : Str → Option Value) (base : Heap) (k : Nat) (x : Str) (sp : Sp) : Prop where
  ex : ∃ (f : Addr) (fd : FuncData) (ps : List Str), FnG P w K mg base k f fd ps sp ∧ mg x = some (.ref f) ∧ PySem.W.keepIn K (.ref f) = true ∧ Binds K fd ps []
theorem clG {P : Program} {w : World} {K : PySem.W.Frag} {mg : Str → Option Value} {base : Heap} {x : Str} {st : Stmt} {N ps : List Str} {k : Nat} {S : List D → D → Prop} (De : Df K mg x ps st) (Sc : FnScope N ps (defScope st)) (len : ∀ ds d, S ds d → ds.length = ps.length)
    (body : ∀ (f : Addr) (cdv : Value) (A : Around) (outer : List Env) (s : Shared) (H : Hp) (E : XK), A.guards = some [] → Room k (A.deeper (envOfC x (defScope st) s.heap.objs.size f cdv)) →
      ∃ t, PSs (cxOf CX0 P w K mg base N x (defScope st) f cdv A outer s H E).nox (defBody st) t ∧ ∀ ds d, S ds d → Sd K E0 t (startG N ds) (.rt d)) : ClG P w K mg base (k + 1) x (spR K S) := by
  obtain ⟨f, fd, F, hm, b⟩ := De.ex
  exact ⟨f, fd, ps, fnG F Sc len (body f), hm, F.kp, b⟩
section
variable {X : Cx} {k j : Nat} {x : Str} {sp : Sp} {p pos : Pos} {e : Expr} {es : List Expr} {t : TA}
theorem pclG (c : ClG X.prog X.w X.K X.mg X.base k x sp) (hG : X.A.guards = some []) (hr : Room j X.A) (hk : k ≤ j) (hg : Gl X x) (ha : PA X (e :: es) t)
    (hdb : (x == ("__debug__" : Str)) = false := by decide) (he : starEach (e :: es) X.env = (false, eval e X.env) :: starEach es X.env := by rfl) (hpl : (backTo pos (starEach es X.env)).any (·.1) = false := by rfl) :
    PE X (.Call (.Name x p) (e :: es) [] pos) (tCall sp [] E0 t) := by
  obtain ⟨f, fd, ps, F, hm, kp, b⟩ := c.ex
  refine ⟨fun pins s σ H Q I h => ?_⟩
  refine wpAny_Call_Name_kw (ld_glob I hg hm ?_ hdb)
  refine PySem.W.callWith_K (h₀ := X.base) I.ok.mod.kin kp (thn (ha.run pos pins s σ H _ I h) fun us s1 ⟨vs, H1, I1, r, q⟩ => ⟨I1.kIn, ?_⟩) he hpl
  have q' : sp (vs ++ []) H1 Q E0 := q
  rw [List.append_nil] at q'
  have hl : us.length = ps.length := by rw [← r.length]; exact F.len _ _ _ _ q'
  have bb := b s1 us I1.kIn (by rw [List.append_nil]; exact hl)
  rw [List.append_nil] at bb
  refine wpAny_call (codeAny_mono (F.run X.A X.stack s1 H1 ⟨us, []⟩ us vs Q E0 (hr.mono hk) hG I1.env0 bb r q') fun rs s' hq => ?_)
  cases rs with
  | error e => exact False.elim hq
  | ok fl =>
    cases fl with
    | ret u => exact I1.after hq
    | next => exact False.elim hq
    | brk => exact False.elim hq
    | cont => exact False.elim hq
end
/-! ### the law itself, called where no repr is under way -/
/-- the script's object, and nothing else, may be tracked -/
structure Scr (K : PySem.W.Frag) (h : Heap) (a : Addr) (o : Obj) (ns : List Int) (H : Hp) : Prop where
  seq : SqL K H a (ns.map V.int)
  only : ∀ b u, H b = some u → b = a ∧ u = .frz o (.lst (ns.map V.int)) ∧ K.lookup a = none
theorem Scr.none_of {K : PySem.W.Frag} {h : Heap} {a : Addr} {o : Obj} {ns : List Int} {H : Hp} (S : Scr K h a o ns H) {b : Addr} (n : b ≠ a) : H b = none := by
  cases q : H b with
  | none => rfl
  | some u => exact absurd (S.only b u q).1 n
theorem scr_mk {P : Program} {w : World} {K : PySem.W.Frag} {h : Heap} {a : Addr} {vs : List Value} {ns : List Int} (KX : K.In h) (ha : h.get? a = some { cls := .type "list", data := .seq vs.toArray }) (hi : IntsAre vs ns) (hl : ns.length ≤ sizeLine) :
    ∃ H : Hp, Scr K h a { cls := .type "list", data := .seq vs.toArray } ns H ∧ HOk P w H h := by
  have rv := vals_ints hi
  have lv := hi.length
  cases hk : K.lookup a with
  | some o =>
    have e := KX a o hk
    rw [ha] at e
    cases e
    exact ⟨fun _ => none, ⟨.inr ⟨_, vs.toArray, _, hk, rfl, rfl, rfl, by rw [List.size_toArray, lv]; exact hl, by simpa using rv⟩, fun b u z => nomatch z⟩, fun b u z => nomatch z⟩
  | none =>
    let u : HO := .frz { cls := .type "list", data := .seq vs.toArray } (.lst (ns.map V.int))
    have get : ∀ b v, (if b = a then some u else none) = some v → b = a ∧ v = u := fun b v z => by
      by_cases hb : b = a
      · rw [if_pos hb] at z
        cases z
        exact ⟨hb, rfl⟩
      · rw [if_neg hb] at z
        cases z
    refine ⟨fun b => if b = a then some u else none, ⟨.inl (.inr ⟨_, if_pos rfl⟩), fun b v z => ?_⟩, fun b v z => ?_⟩
    · obtain ⟨e1, e2⟩ := get b v z
      exact ⟨e1, e2, hk⟩
    · obtain ⟨rfl, rfl⟩ := get b v z
      exact ⟨ha, by rw [List.length_map]; exact hl, vs, _, rv, ha⟩
theorem law_callG {P : Program} {w : World} {K : PySem.W.Frag} {mg mb : Str → Option Value} {k : Nat} {fa a : Addr} {fd : FuncData} {x : Str} {s : Shared} {vs : List Value} {ns : List Int}
    (KX : K.In s.heap) (hns : s.heap.Ns mainGlobals mg) (hb : s.heap.Ns builtinsNs mb) (hbb : ∀ x : Str, x ≠ "__name__" → mb x = bootBuiltins x) (hlim : s.heap.NoLimit) (hg : s.gens = #[])
    (ha : s.heap.get? a = some { cls := .type "list", data := .seq vs.toArray }) (hi : IntsAre vs ns) (hl : ns.length ≤ 63) (hbits : ∀ z ∈ ns, Builtin.Int.intBits z ≤ 1048576) (hr : Room k callerA)
    (F : ∀ base : Heap, K.In base → base.Ns mainGlobals mg → FnG P w K mg base k fa fd [x] (spLaw K)) (hbind : ∀ (s : Shared) (u : Value), BindsTo s fd ⟨[u], []⟩ [(x, u)]) :
    codeAny (model P w) callerA (.call (.ref fa) ⟨[.ref a], []⟩) (fun r s' => r = .ok (.ret (.bool true)) ∧ OldK s.heap s'.heap ∧ s'.os = s.os ∧ AllBare s'.gens) s := by
  obtain ⟨H, S, hok⟩ := scr_mk (P := P) (w := w) KX ha hi (Nat.le_trans hl (by decide))
  -- what is not the script is seen below
  have below : ∀ {b : Addr} {o : Obj}, s.heap.get? b = some o → H b = none → (hidT s.heap H).get? b = some o := fun e n => hidT_get e n
  have ns_below : ∀ {b : Addr} {m : Str → Option Value}, s.heap.Ns b m → (hidT s.heap H).Ns b m := by
    rintro b m ⟨o, es, ep, e, d, r⟩
    refine ⟨o, es, ep, below e (S.none_of fun z => ?_), d, r⟩
    subst z
    rw [ha] at e
    cases e
    cases d
  have k_below : K.In (hidT s.heap H) := fun b o e => below (KX b o e) (by
    cases q : H b with
    | none => rfl
    | some u =>
      obtain ⟨rfl, _, z⟩ := S.only b u q
      rw [z] at e
      cases e)
  obtain ⟨mc, l1, l2⟩ := hlim
  have md : Mod K mg (hidT s.heap H) := ⟨k_below, ns_below hns, ⟨mb, ns_below hb, hbb⟩, ⟨mc, ns_below l1, l2⟩⟩
  have e0 : Env0 P w K mg (hidT s.heap H) callerA [] s H :=
    { frames := rfl, mod := md, bs := fun b o e => of_hidT e, bsz := Nat.le_of_eq (hidT_size _ _), funs := trivial, frf := (fun b z => nomatch z), hok := hok, bare := .of_eq hg }
  have run := (F _ k_below (ns_below hns)).run callerA [] s H ⟨[.ref a], []⟩ [.ref a] [.ref a] (fun v _ => v = .bl true) (fun _ _ _ => False) hr rfl e0 (hbind s (.ref a)) (.cons rfl .nil) ⟨a, ns, rfl, S.seq, hl, hbits, fun _ => rfl⟩
  refine codeAny_mono run fun r s' h => ?_
  match r, h with
  | .error e, h => exact False.elim h
  | .ok .next, h => exact False.elim h
  | .ok .brk, h => exact False.elim h
  | .ok .cont, h => exact False.elim h
  | .ok (.ret u), ⟨v, H', os, bare, un, hok', rv, q⟩ =>
    cases (show v = .bl true from q)
    cases (show u = Value.bool true from rv)
    refine ⟨rfl, OldK.of_keep fun b o e => ?_, os, bare⟩
    cases q : H b with
    | none => exact un.keep b o e q (fun z => by cases z) (fun z => by cases z)
    | some v =>
      obtain ⟨rfl, rfl, _⟩ := S.only b v q
      have g1 := (hok _ _ q).1
      have g2 := (hok' _ _ (un.frzs _ _ _ q)).1
      rw [e] at g1
      cases g1
      exact g2
theorem walkG {l : PySem.W.OpenLaw} {k : Nat} {q : Program} {loose : List Str} {XP : (Str → Option Value) → Heap → Prop} {YP : World → Heap → Prop} {d : DefRec} {K : Params → PySem.W.Frag} {x : Str}
    (hn : l.most = some 63) (hdf : d.params.defaults = []) (hr : Room k callerA) (hY : ∀ (w : World) (h : Heap), YP w h → (K w.params).In h)
    (F : ∀ (w : World) (mg : Str → Option Value) (fa : Addr) (h : Heap), (K w.params).In h → h.Ns mainGlobals mg → mg d.name = some (.ref fa) →
      ∃ fd : FuncData, (∀ (s : Shared) (u : Value), BindsTo s fd ⟨[u], []⟩ [(x, u)]) ∧ ∀ base : Heap, (K w.params).In base → base.Ns mainGlobals mg → FnG l.prog w (K w.params) mg base k fa fd [x] (spLaw (K w.params))) :
    PySem.W.WalkO q loose XP YP l.row.toRowW d [] (fun f vs => PySem.call f vs) := by
  refine Att.attach_callB hn hdf fun w s₀ s₁ mg mb fa o pm cd doc a vs ns G Y ho hd hcd hmg hobj hints hlen hbits hg => ?_
  obtain ⟨fd, hb, hF⟩ := F w mg fa _ (hY w _ Y) G.T.g hmg
  exact law_callG (hY w _ Y) G.T.g G.T.b G.T.builtins G.T.nolimit hg hobj hints hlen hbits hr hF hb
theorem fnLawG {P : Program} {w : World} {K : PySem.W.Frag} {mg : Str → Option Value} {base : Heap} {x qual : Str} {st : Stmt} {f : Addr} {fd : FuncData} {N ps : List Str} {k : Nat} (F : Fun K x qual st f fd) (sc : FnScope N ps (defScope st)) (h1 : ps.length = 1)
    (body : ∀ (cdv : Value) (A : Around) (outer : List Env) (s : Shared) (H : Hp) (E : XK), A.guards = some [] → Room k (A.deeper (envOfC qual (defScope st) s.heap.objs.size f cdv)) →
      ∃ t, PSs (cxOf CX0 P w K mg base N qual (defScope st) f cdv A outer s H E).nox (defBody st) t ∧ ∀ ns : List Int, ns.length ≤ 63 → (∀ z ∈ ns, Builtin.Int.intBits z ≤ 1048576) → Sd K E0 t (startG N [.scr ns]) (.rt (.bl true))) : FnG P w K mg base (k + 1) f fd ps (spLaw K) :=
  (fnG (S := Slaw) F sc (fun ds d h => by obtain ⟨ns, rfl, _⟩ := h; exact h1.symm) fun cdv A outer s H E hG hr => by
    obtain ⟨t, ht, hd⟩ := body cdv A outer s H E hG hr
    exact ⟨t, ht, fun ds d h => by obtain ⟨ns, rfl, a, b, rfl⟩ := h; exact hd ns a b⟩).imp law_imp
/-! ### x[::-1] of a text -/
def tRevS (te : TE) : TE := fun σ H Q => te σ H fun x H1 => ∃ z : Str, x = .str z ∧ z.length ≤ sizeLine ∧ Q (.str ⟨z.cps.toList.reverse.toArray⟩) H1
theorem rev_ix (z : Str) : ((Builtin.Str.strSliceIndices none none (-1) z.length).filterMap (z.cps[·]?)).toArray = z.cps.toList.reverse.toArray := by
  have e1 : Builtin.Str.strSliceIndices none none (-1) z.length = (List.range z.length).reverse := by
    show sliceRange ((z.length : Int) - 1) (-1) (-1) = _
    rw [PySem.W.krv_sliceRange, PySem.W.krv_range]
  rw [e1, List.filterMap_reverse]
  congr 2
  exact PySem.W.krv_all z.cps
theorem pe_revS {X : Cx} {e : Expr} {te : TE} {k : Nat} {p1 p2 p3 pos : Pos} (he : PE X e te) : PE X (.Subscript e (.Slice none none (some (.UnaryOp .USub (.Constant (.int 1) k p1) p2)) p3) pos) (tRevS te) := by
  have hst : PO X (some (.UnaryOp .USub (.Constant (.int 1) k p1) p2)) (tPart (tUn (rU fun i => .int (-i)) (tC (.int 1)))) := po_some (pe_un un_neg pe_int)
  refine ⟨fun pins s σ H Q I h => ?_⟩
  refine Subscript_ (thn (he.run pins s σ H _ I h) fun v s1 ⟨x, H1, I1, r1, q1⟩ => ?_)
  obtain ⟨z, rfl, hz, q⟩ := q1
  obtain ⟨t, rfl⟩ := r1
  refine wpAny_Slice (thn (po_none.run pins s1 σ H1 (fun o H2 => o = none ∧ H2 = H1) I1 ⟨rfl, rfl⟩) fun vl s2 ⟨l, H2, I2, pl, e1, e2⟩ => ?_)
  subst e1 e2
  refine thn (po_none.run pins s2 σ H2 (fun o H3 => o = none ∧ H3 = H2) I2 ⟨rfl, rfl⟩) fun vu s3 ⟨u, H3, I3, pu, e3, e4⟩ => ?_
  subst e3 e4
  refine thn (hst.run pins s3 σ H3 (fun o H4 => o = some (-1) ∧ H4 = H3) I3 ⟨1, rfl, -1, rfl, rfl, rfl⟩) fun vs s4 ⟨o, H4, I4, ps, e5, e6⟩ => ?_
  subst e5 e6
  obtain ⟨l1, rfl, hl1⟩ := IsPart.raw pl
  obtain ⟨u1, rfl, hu1⟩ := IsPart.raw pu
  obtain ⟨st, rfl, hst1⟩ := IsPart.raw ps
  have I5 : Inv X pins σ H4 { s4 with heap := s4.heap.push { cls := .type "slice", data := .fields #[partValue l1, partValue u1, partValue st] } } := I4.kept (t' := s4.toks) fun b ob q => Heap.get?_push_of_some _ q
  show wpAny (model X.prog X.w) X.A (subscriptTail e (.Slice none none (some (.UnaryOp .USub (.Constant (.int 1) k p1) p2)) p3) (.str z t) (.ref s4.heap.objs.size)) (EP X pins σ Q) X.xe { s4 with heap := s4.heap.push { cls := .type "slice", data := .fields #[partValue l1, partValue u1, partValue st] } }
  refine tail_any (ops := [.ref s4.heap.objs.size, .str z t]) (typeIs_str _ _ _) (PySem.F.slot_str_getitem.lookup) ?_ (by with_unfolding_all rfl)
  refine wpAny_getItem_str_slice (l := l1) (u := u1) (st := st) ⟨_, Heap.get?_push_size _ rfl, rfl, rfl⟩ (by rw [hst1]; rfl) ?_
  have hm : sliceMade z t l1 u1 st = Made.str ⟨z.cps.toList.reverse.toArray⟩ := by
    unfold sliceMade slicePicked
    rw [hst1, hl1, hu1]
    show (if ((-1 : Int) == 1 && _) = true then _ else Made.str ⟨((Builtin.Str.strSliceIndices none none (-1) z.length).filterMap (z.cps[·]?)).toArray⟩) = _
    rw [if_neg (by rw [show ((-1 : Int) == 1) = false from rfl, Bool.false_and]; decide)]
    exact congrArg (fun a => Made.str ⟨a⟩) (rev_ix z)
  rw [hm]
  refine ⟨?_, .str _, H4, I5.tok _, ⟨_, rfl⟩, q⟩
  show (z.cps.toList.reverse.toArray).size ≤ sizeLine
  rw [List.size_toArray, List.length_reverse, Array.length_toList]
  exact hz
theorem ed_revS {K : PySem.W.Frag} {Γ : Gam} {te : TE} {z : Str} (h : Ed K te Γ (.str z)) (hz : z.length ≤ 100000) : Ed K (tRevS te) Γ (.str ⟨z.cps.toList.reverse.toArray⟩) := fun F0 H0 F H σ ok Q q => h F0 H0 F H σ ok _ fun v F1 H1 g1 r1 => by
  cases r1
  exact ⟨z, rfl, Nat.le_trans hz (by decide), q _ F1 H1 g1 (.str _)⟩
/-! ### isinstance of an own class -/
structure Tin (K : PySem.W.Frag) (C : Addr) : Prop where
  cl : Cls K C
  ha : PySem.W.findIn K (.ref C) "__class__" = some (some (.builtin "object.__class__"))
  hn : PySem.W.specialIn K (.builtin "object.__class__") "__get__" = some (some (.builtin "getset_descriptor.__get__"))
  ht : PySem.W.takesIn K (.builtin "object.__class__") = some true
  hm : PySem.W.mroIn K C (.type "object") = some true
theorem rc_isO {K : PySem.W.Frag} {C : Addr} {gs : List (Str × D)} (t : Tin K C) : RcD K (rIsi K) [.ins C gs, .adr C] (.bl true) :=
  rc_isiC (t := .ref C) (fun F H v s r => by
    cases r with
    | ins h _ => exact .base (.ins (s _ _ h) t.cl t.ha t.hn t.ht t.hm)) kit_self
end DL

namespace DL
open PySem PySem.Spec PyProof.Rows L2 PySem.Calls
/-! ### list(text): its signs -/
section
variable {prog : Program} {w : World} {A : Around} {E : Value → Shared → Prop} {s : Shared}
theorem hintS {z : Str} {tt : Tok} {G : Bool → Shared → Prop} (g : G false s) : wpAny (model prog w) A (Builtin.List.listLengthHint (.str z tt)) G E s := by
  have ty : s.TypeIs (.str z tt) "str" := typeIs_str s z tt
  unfold Builtin.List.listLengthHint
  refine wpAny_bind (wpAny_specialOf ty PySem.F.slot_str_len.lookup ?_)
  generalize nm : ("str.__len__" : String) = i1
  wp_delta
  rw [show splitId i1 = some ("str", "__len__") from by subst nm; decide +kernel]
  subst nm
  refine wpAny_bind (wpAny_isInstance (T := "str") (b := true) ty (by rw [isSubtype_type]; kernel_rfl) ?_)
  refine wpAny_ite_split (fun q => absurd q (by decide)) (fun _ => ?_)
  refine wpAny_ite_split (fun _ => ?_) (fun q => absurd (by decide +kernel) q)
  refine wpAny_bind (wpAny_typeOf ty ?_)
  exact wpAny_pure g
theorem iterS {z : Str} {tt : Tok} : ∃ (T : String) (oI : Obj), (∀ (A : Around) (E : Value → Shared → Prop) (s : Shared) (G : Value → Shared → Prop), G (.ref s.heap.objs.size) { s with heap := s.heap.push oI } → wpAny (model prog w) A (pyIter (.str z tt)) G E s) ∧
    (∀ (A : Around) (I : Addr), A.handled = none → Walks prog w A I [I] [I] z.cps.size (SignAt z) (fun i h => h.IsStrIter I T z tt i)) ∧ ∀ h : Heap, (h.push oI).IsStrIter h.objs.size T z tt 0 := by
  cases ha : z.cps.all (· < 128)
  · exact ⟨"str_iterator", _, fun A E s G g => wpAny_pyIter_wide ha g, fun A I hh => Walks.strWide hh I z tt, fun h => ⟨_, Heap.get?_push_size _ rfl, rfl, rfl⟩⟩
  · exact ⟨"str_ascii_iterator", _, fun A E s G g => wpAny_pyIter_ascii ha g, fun A I hh => Walks.strAscii hh I z tt, fun h => ⟨_, Heap.get?_push_size _ rfl, rfl, rfl⟩⟩
theorem extS {Rr : Result → Shared → Prop} (hh : A.handled = none) (z : Str) (tt : Tok) (l0 : Addr) (rs : Value) (k0 : Nat) (hl0 : s.heap.get? l0 = some { cls := .type "list", data := .seq #[] k0 })
    (fin : ∀ g tk ac kc, (∀ b o, b ≠ l0 → s.heap.get? b = some o → g.get? b = some o) → g.get? l0 = some { cls := .type "list", dict := none, data := .seq ac kc, slots := #[] } → ItemsOf (SignAt z) ac z.cps.size → Rr (.ok (.ret rs)) { s with heap := g, toks := tk }) (few : z.cps.size ≤ sizeLine) :
    wpAny (model prog w) A.in1 (Builtin.List.listExtendWith (.ref l0) (.str z tt) rs) (fun fi st => match fi with | .done f => Rr (.ok f) st | .again cc => cc.quiet = true ∧ codeAny (model prog w) A cc Rr st) (fun e st => Rr (.error e) st) s := by
  have n1 : l0 ≠ s.heap.objs.size := Nat.ne_of_lt (Heap.lt_size hl0)
  have n2 : l0 ∉ [s.heap.objs.size] := fun hm => n1 (List.mem_singleton.mp hm)
  obtain ⟨T, oI, it, wk, st0⟩ := iterS (prog := prog) (w := w) (z := z) (tt := tt)
  unfold Builtin.List.listExtendWith
  refine wpAny_bind (wpAny_typeOf (T := "str") (v := .str z tt) (typeIs_str s z tt) ?_)
  have e1 : Builtin.List.listSameRef (.ref l0) (.str z tt) = false := rfl
  have e2 : (Value.type "str" == Value.type "list") = false := by decide
  have e3 : (Value.type "str" == Value.type "tuple") = false := by decide
  simp only [e1, e2, e3, Bool.or_false, Bool.false_eq_true, if_false]
  refine wpAny_bind (it _ _ _ _ ?_)
  refine wpAny_bind (wpAny_holding (hintS ?_))
  rw [if_neg (by first | decide | decide +kernel)]
  have W := wk A.in1 s.heap.objs.size hh
  refine wpAny_pure ⟨plainId_quiet PySem.F.plain_extend_loop _, codeAny_extend_loopS W.toS few _ n2 _ z.cps.size 0 _ _ _ rfl (Nat.zero_le _) (st0 s.heap) (Heap.get?_push_of_some _ hl0) (ItemsOf.nil _) fun st ac kc mv hS' hac => ?_⟩
  rw [Moved.eq_with mv]
  refine fin st.heap st.toks ac kc (fun b ob hb e => mv.heap b ob (fun mem => ?_) (Heap.get?_push_of_some _ e)) hS' hac
  rcases List.mem_cons.mp mem with e' | mem
  · exact hb e'
  · exact absurd (Heap.lt_size e) (by rw [List.mem_singleton.mp mem]; exact Nat.lt_irrefl _)
theorem initS {Rr : Result → Shared → Prop} (hh : A.handled = none) (z : Str) (tt : Tok) (l0 : Addr) (hl0 : s.heap.get? l0 = some { cls := .type "list", data := .seq #[] })
    (fin : ∀ g tk ac kc, (∀ b o, b ≠ l0 → s.heap.get? b = some o → g.get? b = some o) → g.get? l0 = some { cls := .type "list", dict := none, data := .seq ac kc, slots := #[] } → ItemsOf (SignAt z) ac z.cps.size → Rr (.ok (.ret .none)) { s with heap := g, toks := tk }) (few : z.cps.size ≤ sizeLine) :
    wpAny (model prog w) A.in1 (Builtin.«list.__init__» ⟨[.ref l0, .str z tt], []⟩) (fun fi st => match fi with | .done f => Rr (.ok f) st | .again cc => cc.quiet = true ∧ codeAny (model prog w) A cc Rr st) (fun e st => Rr (.error e) st) s := by
  show wpAny _ _ (do let was ← Builtin.List.listItems (.ref l0); Builtin.List.listUpdate (.ref l0) (fun _ => #[]); letGo was.toList.reverse; Builtin.List.listExtendWith (.ref l0) (.str z tt) .none) _ _ s
  refine wpAny_bind ?_
  unfold Builtin.List.listItems
  refine wpAny_bind (wpAny_seqItems hl0 rfl (wpAny_pure ?_))
  show wpAny _ _ (updateSeq l0 (fun _ => #[]) >>= fun _ => letGo (#[] : Array Value).toList.reverse >>= fun _ => Builtin.List.listExtendWith (.ref l0) (.str z tt) .none) _ _ s
  refine wpAny_bind (wpAny_updateSeq hl0 rfl ?_)
  have up := Heap.get?_update_self (Obj.mapSeq (fun _ => (#[] : Array Value))) hl0 rfl
  have ot : ∀ b o, b ≠ l0 → s.heap.get? b = some o → (s.heap.update l0 (Obj.mapSeq (fun _ => (#[] : Array Value)))).get? b = some o := fun b o hb e => (Heap.get?_update_other _ _ (Ne.symm hb)).trans e
  refine wpAny_bind (wpAny_letGo ?_)
  refine extS hh z tt l0 .none _ up (fun g tk ac kc hk up' hac => ?_) few
  exact fin g tk ac kc (fun b o hb e => hk b o hb (ot b o hb e)) up' hac
theorem list_str {z : Str} {tt : Tok} {G : Value → Shared → Prop} (hh : A.handled = none) (few : z.cps.size ≤ sizeLine)
    (fin : ∀ g tk ac kc, (∀ b o, s.heap.get? b = some o → g.get? b = some o) → g.get? s.heap.objs.size = some { cls := .type "list", dict := none, data := .seq ac kc, slots := #[] } → ItemsOf (SignAt z) ac z.cps.size → G (.ref s.heap.objs.size) { s with heap := g, toks := tk }) :
    wpAny (model prog w) A (call (.type "list") [.str z tt]) G E s := by
  refine callType_codes (Q₁ := fun ob st => ob = .ref s.heap.objs.size ∧ st = { s with heap := s.heap.push { cls := .type "list", data := .seq #[] } }) PySem.F.called_list (PySem.F.typeCall_list_1 _) PySem.F.entry_list_init (code_list_new _ ⟨rfl, rfl⟩) fun ob st h1 => ?_
  obtain ⟨rfl, rfl⟩ := h1
  have at0 : (s.heap.push { cls := .type "list", data := .seq #[] }).get? s.heap.objs.size = some { cls := .type "list", data := .seq #[] } := Heap.get?_push_size _ rfl
  refine ⟨⟨_, at0, rfl⟩, PySem.F.args_list_init_2 _ _, initS (A := A.in1) hh z tt _ at0 (fun g tk ac kc hk up hac => ?_) few⟩
  exact ⟨rfl, fin g tk ac kc (fun b o e => hk b o (Nat.ne_of_lt (Heap.lt_size e)) (Heap.get?_push_of_some _ e)) up hac⟩
end
def sgnV (z : Str) : List V := z.cps.toList.map fun c => V.str ⟨#[c]⟩
def rListS : List V → Hp → VK → Prop := fun xs H Q => ∃ z : Str, xs = [.str z] ∧ z.cps.size ≤ sizeLine ∧ ∀ q, H q = none → Q (.ref q) (upd H q (.lst (sgnV z)))
theorem call_listStr {X : Cx} (hc : X.calm = true) : CallR X (.type "list") rListS := by
  intro pins s σ H xs us Q I r h
  obtain ⟨z, rfl, few, q⟩ := h
  obtain ⟨u, rfl, rx⟩ := vals1 r
  obtain ⟨tt, rfl⟩ := rx
  refine list_str (I.ok.hd hc) few fun g tk ac kc hk up hac => ?_
  have hl : (sgnV z).length = z.cps.size := by simp [sgnV]
  refine ⟨.ref s.heap.objs.size, upd H s.heap.objs.size (.lst (sgnV z)), I.laid hk (Nat.le_refl _) (show ObjOk X.prog X.w _ _ _ (.lst (sgnV z)) from ⟨?_, ac.toList, kc, ?_, ?_⟩), rfl, q _ (I.hok.fresh (Nat.le_refl _))⟩
  · rw [hl]; exact few
  · have el : ac.toList.length = ac.size := by simp
    refine vals_of_at (by rw [hl, el, hac.1]) fun j x w0 h1 h2 => ?_
    obtain ⟨c, u, hcx, rfl⟩ := hac.2 j w0 (by rw [← Array.getElem?_toList]; exact h2)
    have e2 : (sgnV z)[j]? = some (V.str ⟨#[c]⟩) := by
      unfold sgnV
      rw [List.getElem?_map, Array.getElem?_toList, hcx] <;> rfl
    rw [e2] at h1
    cases h1
    exact ⟨u, rfl⟩
  · rw [Array.toArray_toList]; exact up
theorem callListS {X : Cx} (hc : X.calm = true) : CallR X (.type "list") rListS := call_listStr hc
/-! ### what is never reached -/
theorem pss_dead {X : Cx} {sts : List Stmt} : PSs X sts (fun _ _ _ => False) := ⟨fun _ _ _ _ _ _ h => h.elim⟩
section
variable {K : PySem.W.Frag} {Γ : Gam} {te : TE} {W : WX} {C : Addr} {sp : Sp} {dvs : List V}
theorem rpa_sgn {F : Hp} : ∀ l : List Nat, RpA K F (l.map fun c => V.str ⟨#[c]⟩) (l.map fun c => D.str ⟨#[c]⟩)
  | [] => .nil
  | c :: l => .cons (.str _) (rpa_sgn l)
theorem rc_listS {z : Str} (hz : z.length ≤ 100000) : RcD K rListS [.str z] (.lst (sgn z)) := fun F H vs s r Q q => by
  cases r with
  | cons r rr =>
    cases rr
    cases r
    refine ⟨z, rfl, Nat.le_trans hz (by decide), fun l hl => ?_⟩
    have g := Gr.new (o := .lst (sgnV z)) s hl
    refine q _ _ _ g (.lst upd_same ?_)
    exact rpa_sgn _
theorem rpa_strs {F : Hp} : ∀ xs : List Str, RpA K F (xs.map V.str) (xs.map D.str)
  | [] => .nil
  | x :: xs => .cons (.str x) (rpa_strs xs)
/-- sorted(list of texts): the one way to lay them -/
theorem rc_sortedS {xs ys : List Str} (hl : xs.length < 64) (h : ∀ zs : List Str, zs.Perm xs → sortedS zs = true → zs = ys) : RcD K (rSortedS K) [.lst (xs.map .str)] (.lst (ys.map .str)) := fun F H vs s r Q q => by
  cases r with
  | cons r rr =>
    cases rr
    cases r with
    | @lst a us _ ha ra =>
      have e := RpA.strs ra
      subst e
      refine ⟨a, xs, rfl, .inl (.inl (s _ _ ha)), hl, fun zs p hp hs hn => ?_⟩
      have ez := h zs hp hs
      subst ez
      have g := Gr.new (o := .lst (zs.map V.str)) s hn
      exact q _ _ _ g (.lst upd_same (rpa_strs zs))
theorem r2_notIn {c : Nat} {z : Str} : R2D K (fun x y H Q => ∃ (c : Nat) (z : Str), x = .str ⟨#[c]⟩ ∧ y = .str z ∧ Q (.bl (!decide (c ∈ z.cps.toList))) H) (.str ⟨#[c]⟩) (.str z) (.bl (!decide (c ∈ z.cps.toList))) := fun F H v w s rv rw Q q => by
  cases rv; cases rw
  exact ⟨c, z, rfl, rfl, q _ F H (Gr.refl s) (.bl _)⟩
theorem xw_arg1 {E : XK} (h : XdW K W te Γ C) : XdW K W (tCall sp dvs E (tCons te tNil)) Γ C := fun F0 H0 F H σ ok fin Q => h F0 H0 F H σ ok fin _
end
/-- two classes are caught -/
def W2 (C1 C2 : Addr) (d1 d2 : D) : Addr → Option D := fun C => if C = C1 then some d1 else if C = C2 then some d2 else none
theorem W2_one {C1 C2 : Addr} {d1 d2 : D} : W2 C1 C2 d1 d2 C1 = some d1 := if_pos rfl
theorem W2_two {C1 C2 : Addr} {d1 d2 : D} (n : C2 ≠ C1) : W2 C1 C2 d1 d2 C2 = some d2 := by
  unfold W2
  rw [if_neg n, if_pos rfl]
theorem W2_ok {P : Program} {w : World} {K : PySem.W.Frag} {mg : Str → Option Value} {base : Heap} {k : Nat} {x : Str} {C1 C2 : Addr} {d1 d2 : D} (c1 : ClE P w K mg base k x C1 d1) (c2 : ClE P w K mg base k x C2 d2) : ∀ C d, W2 C1 C2 d1 d2 C = some d → ClE P w K mg base k x C d := fun C d h => by
  unfold W2 at h
  by_cases e : C = C1
  · subst e
    rw [if_pos rfl] at h
    cases h
    exact c1
  · rw [if_neg e] at h
    by_cases e' : C = C2
    · subst e'
      rw [if_pos rfl] at h
      cases h
      exact c2
    · rw [if_neg e'] at h
      cases h
theorem kit_ne {K : PySem.W.Frag} {C C' : Addr} (h : PySem.W.kitOne K (.ref C) (.ref C') = some false) : C ≠ C' := fun e => by
  subst e
  rw [kit_self] at h
  cases h
end DL

namespace DL
open PySem PySem.Spec PyProof.Rows L2
/-! ### more about texts -/
def rMulS : R2 := fun x y H Q => ∃ (a : Str) (n : Int), x = .str a ∧ y = .int n ∧ MulOk a n ∧ Q (.str (Txt.mul a n)) H
theorem op_mulS {X : Cx} : OpR X (binaryOp .Mult) rMulS := by
  intro pins s σ H x y v u Q I rx ry h
  obtain ⟨a, n, rfl, rfl, ok, q⟩ := h
  obtain ⟨t, rfl⟩ := rx
  obtain ⟨t', rfl⟩ := ry
  exact PySem.SB.mul ok fun t'' k => ⟨.str _, H, I.tok _, ⟨_, rfl⟩, q⟩
section
variable {K : PySem.W.Frag} {Γ : Gam} {to te : TE} {a b : Str} {d : D}
theorem r2_mulS {n : Int} (h : MulOk a n) : R2D K rMulS (.str a) (.int n) (.str (Txt.mul a n)) := fun F H v w s rv rw Q q => by
  cases rv; cases rw
  exact ⟨a, n, rfl, rfl, h, q _ F H (Gr.refl s) (.str _)⟩
theorem rc_strI {i : Int} (h : i.natAbs.log2 < 1920) : RcD K (fun xs H Q => ∃ i, xs = [.int i] ∧ i.natAbs.log2 < 1920 ∧ Q (.str (toString i)) H) [.int i] (.str (Str.ofString (toString i))) := fun F H vs s r Q q => by
  have e := RpA.ints (ns := [i]) r
  exact ⟨i, e, h, q _ F H (Gr.refl s) (.str _)⟩
theorem ed_split (h : Ed K to Γ (.str a)) (h2 : Ed K te Γ (.str b)) (hb : (b.length == 0) = false) (hl : a.length ≤ 100000) :
    Ed K (tM1 (fun x xs H Q => ∃ a b, x = .str a ∧ xs = [.str b] ∧ (b.length == 0) = false ∧ a.length + 2 ≤ sizeLine ∧ rNewStrs (Txt.split a b) H Q) to te) Γ (.lst ((Txt.split a b).map .str)) := fun F0 H0 F H σ ok Q q => h F0 H0 F H σ ok _ fun v F1 H1 g1 r1 => by
  cases r1
  refine ⟨⟨a, rfl⟩, h2 F0 H0 F1 H1 σ (ok.grow g1) _ fun w F2 H2 g2 r2 => ?_⟩
  cases r2
  refine ⟨a, b, rfl, rfl, hb, Nat.le_trans (Nat.add_le_add_right hl 2) (by decide), fun p hp => ?_⟩
  have g3 := g1.trans g2
  have g := Gr.new (o := .lst ((Txt.split a b).map V.str)) g3.s hp
  exact q _ _ _ (g3.trans g) (.lst upd_same (rpa_strs _))
theorem ed_count (h : Ed K to Γ (.str a)) (h2 : Ed K te Γ (.str b)) : Ed K (tM1 (fun x xs H Q => ∃ a b, x = .str a ∧ xs = [.str b] ∧ Q (.int (Txt.count a b)) H) to te) Γ (.int (Txt.count a b)) := fun F0 H0 F H σ ok Q q => h F0 H0 F H σ ok _ fun v F1 H1 g1 r1 => by
  cases r1
  refine ⟨⟨a, rfl⟩, h2 F0 H0 F1 H1 σ (ok.grow g1) _ fun w F2 H2 g2 r2 => ?_⟩
  cases r2
  exact ⟨a, b, rfl, rfl, q _ F2 H2 (g1.trans g2) (.int _)⟩
def isNon : D → Bool
  | .non => true
  | _ => false
theorem ed_isN (h : Ed K te Γ d) : Ed K (tIsN te) Γ (.bl (isNon d)) := fun F0 H0 F H σ ok Q q => h F0 H0 F H σ ok _ fun v F1 H1 g1 r1 => by
  have e : decide (v = .non) = isNon d := by cases r1 <;> rfl
  show Q (.bl (decide (v = .non))) H1
  rw [e]
  exact q _ F1 H1 g1 (.bl _)
theorem ed_notN (h : Ed K te Γ d) : Ed K (tNotN te) Γ (.bl (!isNon d)) := fun F0 H0 F H σ ok Q q => h F0 H0 F H σ ok _ fun v F1 H1 g1 r1 => by
  have e : (!decide (v = .non)) = !isNon d := by cases r1 <;> rfl
  show Q (.bl (!decide (v = .non))) H1
  rw [e]
  exact q _ F1 H1 g1 (.bl _)
theorem et_notN (h : Ed K te Γ d) : Et K (tB (tNotN te)) Γ (!isNon d) := et_B (ed_notN h)
theorem et_isN (h : Ed K te Γ d) : Et K (tB (tIsN te)) Γ (isNon d) := et_B (ed_isN h)
theorem et_chain {r r' : R2} {ta tb tc : TE} {dx dy dz : D} {p q : Bool} (ha : Ed K ta Γ dx) (hb : Ed K tb Γ dy) (h1 : R2D K r dx dy (.bl p)) (h2 : p = true → Ed K tc Γ dz ∧ R2D K r' dy dz (.bl q)) : Et K (tTest (tChain r r' ta tb tc)) Γ (p && q) := et_test (ed_chain ha hb h1 h2)
end
end DL

namespace DL
open PySem PySem.Spec PyProof.Rows L2
/-! ### making an instance inside a try -/
def tMakeS (C : Addr) (sp : Sp) (E : L2.St → XK) (t : TA) : TE := fun σ H Q => t σ H fun vs H1 => ∀ x dx, H1 x = none → H1 dx = none → dx ≠ x →
  sp (.ref x :: vs) (upd (upd H1 dx (.own x)) x (.ins C dx [])) (fun v H2 => v = .non ∧ Q (.ref x) H2) (E σ)
section
variable {X : Cx} {CX : CXT} {k j : Nat} {f C : Addr} {fd : FuncData} {ps : List Str} {sp : Sp} {E : L2.St → XK} {x : Str} {p pos : Pos} {e : Expr} {es : List Expr} {t : TA}
theorem run_makeS {pins : List (Addr × Obj)} {σ : L2.St} {H : Hp} {s : Shared} {Q : VK} {us : List Value} {vs : List V} (M : Mk X.K C f) (F : FnOk X.prog X.w X.K X.mg X.base CX k f fd ps sp) (hr : Room (k + 1) X.A) (hb : Binds X.K fd ps [])
    (hx : PassesAt CX X σ (E σ)) (I : Inv X pins σ H s) (r : Vals vs us)
    (h : ∀ y dy, H y = none → H dy = none → dy ≠ y → sp (.ref y :: vs) (upd (upd H dy (.own y)) y (.ins C dy [])) (fun v H2 => v = .non ∧ Q (.ref y) H2) (E σ)) :
    wpAny (model X.prog X.w) X.A (call (.ref C) us) (EP X pins σ Q) X.xe s := by
  have q0 := h (s.heap.objs.size + 1) s.heap.objs.size (I.hok.fresh (Nat.le_succ _)) (I.hok.fresh (Nat.le_refl _)) (Nat.ne_of_lt (Nat.lt_succ_self _))
  have J := Inv.made (C := C) I
  have rr : Vals (V.ref (s.heap.objs.size + 1) :: vs) (Value.ref (s.heap.objs.size + 1) :: us) := .cons rfl r
  have hl : (Value.ref (s.heap.objs.size + 1) :: us).length = ps.length := by
    have z := rr.length
    rw [F.len _ _ _ _ q0] at z
    exact z.symm
  have bb := hb _ (Value.ref (s.heap.objs.size + 1) :: us) J.kIn (by rw [List.append_nil]; exact hl)
  rw [List.append_nil] at bb
  refine wpAny_call (make_map (f := f) I.kIn M.makes M.init (beq_iff_eq.mp M.fn) (codeAny_mono (F.run _ X.stack _ _ ⟨Value.ref (s.heap.objs.size + 1) :: us, []⟩ (Value.ref (s.heap.objs.size + 1) :: us) _ _ (E σ) (hr.make C us [])
    (J.env0.make C us []) bb rr q0) fun rs s' hq => ?_))
  cases rs with
  | error e => exact hx pins _ _ e s' J hq
  | ok fl =>
    cases fl with
    | ret u =>
      obtain ⟨v, H', I3, rv, ev, q3⟩ := J.after hq
      subst ev
      exact ⟨rv, ⟨V.ref (s.heap.objs.size + 1), H', I3, rfl, q3⟩⟩
    | next => exact False.elim hq
    | brk => exact False.elim hq
    | cont => exact False.elim hq
theorem pciS (c : Ci X.prog X.w X.K X.mg X.base (L2.CX X.prog X.w) k x C sp) (hr : Room j X.A) (hk : k + 1 ≤ j) (hg : Gl X x) (hx : ∀ σ, PassesAt (L2.CX X.prog X.w) X σ (E σ)) (ha : PA X (e :: es) t)
    (hdb : (x == ("__debug__" : Str)) = false := by decide) (he : starEach (e :: es) X.env = (false, eval e X.env) :: starEach es X.env := by rfl) (hpl : (backTo pos (starEach es X.env)).any (·.1) = false := by rfl) :
    PE X (.Call (.Name x p) (e :: es) [] pos) (tMakeS C sp E t) := by
  obtain ⟨f, fd, ps, M, F, hm, b⟩ := c.ex
  refine ⟨fun pins s σ H Q I h => ?_⟩
  refine wpAny_Call_Name_kw (ld_glob I hg hm ?_ hdb)
  refine PySem.W.callWith_K (h₀ := X.base) I.ok.mod.kin M.kp (thn (ha.run pos pins s σ H _ I h) fun us s1 ⟨vs, H1, I1, r, q⟩ => ⟨I1.kIn, ?_⟩) he hpl
  exact run_makeS M F (hr.mono hk) b (hx σ) I1 r q
end
section
variable {K : PySem.W.Frag} {E : XK} {W : WX} {Γ : Gam} {d : D} {ds : List D} {tas : TA} {te tx : TE} {S : List D → D → Prop} {T : List D → Addr → Prop} {C C' : Addr}
theorem ed_makeS {E' : L2.St → XK} (h : Ea K tas Γ ds) (hs : S ds d) : Ed K (tMakeS C (spI K C S T) E' tas) Γ d := fun F0 H0 F H σ ok Q q => h F0 H0 F H σ ok _ fun vs F1 H1 g1 r1 => fun x dx hx hdx ne =>
  ⟨F1, H1, x, dx, vs, ds, rfl, g1.s, hx, hdx, ne, rfl, r1, .inl ⟨d, hs, fun F2 H2 g2 r2 => ⟨rfl, q _ F2 H2 (g1.trans g2) r2⟩⟩⟩
theorem xw_makeS (h : Ea K tas Γ ds) (hs : T ds C') : XdW K W (tMakeS C (spI K C S T) (WE W) tas) Γ C' := fun F0 H0 F H σ ok fin Q => h F0 H0 F H σ ok _ fun vs F1 H1 g1 r1 => fun x dx hx hdx ne =>
  ⟨F1, H1, x, dx, vs, ds, rfl, g1.s, hx, hdx, ne, rfl, r1, .inr ⟨C', hs, fun F2 H2 g2 => fin F2 H2 ((ok.grow g1).grow g2)⟩⟩
/-! ### xs[i] = e -/
theorem RpA.setAt {F : Hp} {v : V} : ∀ {vs : List V} {ds : List D} (j : Nat), RpA K F vs ds → Rp K F v d → RpA K F (vs.set j v) (ds.set j d)
  | _, _, _, .nil, _ => .nil
  | _, _, 0, .cons _ r, h => .cons h r
  | _, _, j + 1, .cons a r, h => .cons a (RpA.setAt j r h)
theorem sd_put (i : Nat) {k : Int} {j : Nat} (hi : Γ[i]? = some (.ow ds)) (h : Ed K te Γ d) (hx : Ed K tx Γ (.int k)) (hk : ixN ds.length k = some j) : Sd K E (tAsg te (gSub (tVar i) tx rSetL)) Γ (.nx (Γ.set i (.ow (ds.set j d)))) := fun F0 H0 F H σ De ok fin => by
  refine h F0 H0 F H σ ok _ fun v F1 H1 g1 r1 => ?_
  have ok1 := ok.grow g1
  obtain ⟨p, ho, a, b, c, e, r, _⟩ := ok1.ow i (.lst ds) hi
  obtain ⟨vs, rfl, r'⟩ : ∃ vs, ho = .lst vs ∧ RpA K F1 vs ds := by
    cases r with
    | lst r => exact ⟨_, rfl, r⟩
  refine ⟨.ref p, a, ?_⟩
  refine hx F0 H0 F1 H1 σ ok1 _ fun w F2 H2 g2 r2 => ?_
  cases r2
  obtain ⟨c2, b2⟩ := g2.out c b
  refine ⟨p, vs, k, j, rfl, rfl, b2, by rw [r'.len]; exact hk, ?_⟩
  exact fin F2 _ σ (g1.trans g2).f ((ok1.grow g2).upOw hi a (.lst (RpA.setAt j (r'.mono g2.f) (r1.mono g2.f))) trivial)
end
end DL

namespace DL
open PySem PySem.Spec PyProof.Rows L2
/-! ### results that share no list with what was handed in -/
def EdN (K : PySem.W.Frag) (te : TE) (Γ : Gam) (d : D) : Prop := ∀ (F0 H0 F H : Hp) (σ : L2.St), Ok K F0 H0 F H σ Γ → ∀ Q : VK, (∀ v F1 H1, Gr F H F1 H1 → Rp K (fr H0 F1) v d → Q v H1) → te σ H Q
def Lf (K : PySem.W.Frag) (d : D) : Prop := ∀ (F Hs : Hp) (v : V), Rp K F v d → Rp K (fr Hs F) v d
section
variable {K : PySem.W.Frag} {E : XK} {Γ Γ' : Gam} {d : D} {ds : List D} {tas : TA} {te : TE} {C C' : Addr} {S SN : List D → D → Prop} {T : List D → Addr → Prop}
theorem EdN.ed (h : EdN K te Γ d) : Ed K te Γ d := fun F0 H0 F H σ ok Q q => h F0 H0 F H σ ok Q fun v F1 H1 g r => q v F1 H1 g (r.mono (fr_sub _ _))
theorem lf_str (x : Str) : Lf K (.str x) := fun F Hs v r => by cases r; exact .str x
theorem lf_pair (a b : Int) : Lf K (.tup [.int a, .int b]) := fun F Hs v r => by
  cases r with
  | @tup p xs _ h ra =>
    have e := RpA.ints (ns := [a, b]) ra
    subst e
    refine .tup ?_ (RpA.ofInts [a, b])
    rcases h with (h | ⟨o, h⟩) | h
    · exact .inl (.inl (fr_oth h fun ys e => nomatch e))
    · exact .inl (.inr ⟨o, fr_oth h fun ys e => nomatch e⟩)
    · exact .inr h
theorem rpa_lf {F Hs : Hp} : ∀ {vs : List V} {ds : List D}, (∀ d ∈ ds, Lf K d) → RpA K F vs ds → RpA K (fr Hs F) vs ds
  | _, _, _, .nil => .nil
  | _, _, h, .cons a r => .cons (h _ List.mem_cons_self F Hs _ a) (rpa_lf (fun d hd => h d (List.mem_cons_of_mem _ hd)) r)
theorem edN_lf (h : Ed K te Γ d) (l : Lf K d) : EdN K te Γ d := fun F0 H0 F H σ ok Q q => h F0 H0 F H σ ok Q fun v F1 H1 g r => q v F1 H1 g (l F1 H0 v r)
theorem edN_copy (h : Ed K te Γ (.lst ds)) (hl : ∀ d ∈ ds, Lf K d) : EdN K (tCB (rListA K) (tCons te tNil)) Γ (.lst ds) := fun F0 H0 F H σ ok Q q => (ea_cons h ea_nil) F0 H0 F H σ ok _ fun vs F1 H1 g1 r1 => by
  cases r1 with
  | cons r rr =>
    cases rr
    cases r with
    | @lst a xs _ ha ra =>
      refine ⟨a, xs, rfl, .inl (.inl (.inl (g1.s _ _ ha))), fun l hl' => ?_⟩
      have g := Gr.new (o := .lst xs) g1.s hl'
      have h0 : H0 l = none := (ok.g.h.trans g1.h).free hl'
      exact q _ _ _ (g1.trans g) (.lst (fr_new h0 upd_same) (rpa_lf hl (ra.mono g.f)))
theorem RpA.snoc {F : Hp} {vs : List V} {ds : List D} {v : V} (h : RpA K F vs ds) (r : Rp K F v d) : RpA K F (vs ++ [v]) (ds ++ [d]) := h.append (.one r)
theorem edN_map {α : Type} {wi : TI} {g : TG} {vs : List Nat} (xs : List α) (enc : α → D) (f : α → D) (hw : Ei K wi Γ (xs.map enc)) (hl : xs.length ≤ 100000)
    (h : ∀ x ∈ xs, ∃ js Γ1, Eg K g js (enc x) (wipeG Γ vs) Γ1 ∧ (∀ j ∈ js, j ∈ vs) ∧ EdN K te Γ1 (f x)) : EdN K (tLc wi g tYes te vs) Γ (.lst (xs.map f)) := fun F0 H0 F H σ ok Q q =>
  hw F0 H0 F H σ ok _ fun J F1 H1 g1 wk D hD => by
    have hDH : H D = none := g1.h.free hD
    have hDF : F1 D = none := g1.s.free hD
    have hD0 : H0 D = none := ok.g.h.free hDH
    have set : ∀ {F' H' : Hp} {ws : List V}, Gr F H F' H' → F' D = none → Gr F H F' (upd H' D (.lst ws)) := fun {F' H' ws} g hf =>
      ⟨g.f, fun x y e => by rw [upd_ne (ne_of_none e hf)]; exact g.s x y e, fun x y e => by rw [upd_ne (ne_of_none e hDH)]; exact g.h x y e, g.n⟩
    let St := fun (i : Nat) (H' : Hp) => ∃ F' acc, i ≤ xs.length ∧ Same F1 F' ∧ Gr F H F' H' ∧ F' D = none ∧ H' D = some (.lst acc) ∧ RpA K (fr H0 F') acc ((xs.take i).map f)
    refine ⟨fun i m H' => m = xs.length - i ∧ St i H', ⟨xs.length, rfl, F1, [], Nat.zero_le _, Same.refl _, set g1 hDF, hDF, upd_same, .nil⟩, ?_⟩
    rintro i m H2 ⟨rfl, F2, acc, hi, s2, g2, f2, e2, r2⟩
    have lenx : (xs.map enc).length = xs.length := List.length_map _
    by_cases hlt : i < xs.length
    · refine .inr ⟨wk.go i F2 H2 s2 g2.s (by rw [lenx]; exact hlt), St (i + 1), fun H' z => ⟨xs.length - (i + 1), by omega, rfl, z⟩, fun x H3 hy => ?_⟩
      obtain ⟨F3, d, g3, hd, rx⟩ := wk.yl i x F2 H2 H3 s2 g2.s (by rw [lenx]; exact hlt) hy
      have hx : xs[i]? = some xs[i] := List.getElem?_eq_getElem hlt
      rw [List.getElem?_map, hx] at hd
      cases hd
      obtain ⟨js, Γ1, hg, hj, he⟩ := h xs[i] (List.getElem_mem hlt)
      have g03 := g2.trans g3
      have f3 : F3 D = none ∧ H3 D = some (.lst acc) := g3.out f2 e2
      refine hg F0 H0 F3 H3 _ x ((ok.grow g03).wipe vs) rx _ fun σ4 ok4 wp => ⟨(wp vs hj).trans (wipe_wipe σ vs), ?_⟩
      refine et_yes F0 H0 F3 H3 σ4 ok4 _ fun F4 H4 g4 => ?_
      have f4 := g4.out f3.1 f3.2
      have tk : xs.take (i + 1) = xs.take i ++ [xs[i]] := by rw [List.take_add_one, hx]; rfl
      rw [if_pos rfl]
      refine he F0 H0 F4 H4 σ4 (ok4.grow g4) _ fun v F5 H5 g5 r5 => ?_
      have f5 := g5.out f4.1 f4.2
      have gg := (g03.trans g4).trans g5
      refine ⟨acc, f5.2, ?_, F5, acc ++ [v], by omega, ((s2.trans g3.f).trans g4.f).trans g5.f, set gg f5.1, f5.1, upd_same, ?_⟩
      · have z := r2.len
        rw [List.length_map, List.length_take] at z
        have z3 : acc.length < 100000 := by omega
        exact Nat.lt_of_lt_of_le z3 (by decide)
      · rw [tk, List.map_append]
        exact RpA.snoc (r2.mono (fr_mono ((g3.f.trans g4.f).trans g5.f))) r5
    · have e : i = xs.length := by omega
      subst e
      refine .inl ⟨by have z := wk.st F2 H2 s2 g2.s; rw [lenx] at z; exact z, ?_⟩
      rw [List.take_length] at r2
      have sf : Same F2 (upd F2 D (.lst acc)) := same_upd f2
      refine q _ (upd F2 D (.lst acc)) H2 ⟨g2.f.trans sf, fun a u e => ?_, g2.h, fun a a1 a2 => ?_⟩ (.lst (fr_new hD0 upd_same) (r2.mono (fr_mono sf)))
      · by_cases ha : a = D
        · subst ha; rw [upd_same] at e; rw [e2]; exact e
        · rw [upd_ne ha] at e; exact g2.s a u e
      · have ha : a ≠ D := fun z => by subst z; exact a2 hDH
        rw [upd_ne ha]
        exact g2.n a a1 a2
theorem sd_retF (h : EdN K te Γ d) : Sd K E (tRet te) Γ (.rn d) := fun F0 H0 F H σ De ok fin => h F0 H0 F H σ ok _ fun v F1 H1 g r => fin v F1 H1 (ok.g.trans g) r
end
/-! ### promises -/
def spOr (a b : Sp) : Sp := fun vs H Q E => a vs H Q E ∨ b vs H Q E
def spN (K : PySem.W.Frag) (S : List D → D → Prop) : Sp := fun vs H Q _ => ∃ F ds d, Same F H ∧ RpA K F vs ds ∧ S ds d ∧ ∀ v F' H', Gr F H F' H' → Rp K (fr H F') v d → Q v H'
def spIN (K : PySem.W.Frag) (C : Addr) (S : List D → D → Prop) : Sp := fun vs H Q E => ∃ F Hc x dx vs' ds, vs = .ref x :: vs' ∧ Same F Hc ∧ Hc x = none ∧ Hc dx = none ∧ dx ≠ x ∧ H = upd (upd Hc dx (.own x)) x (.ins C dx []) ∧ RpA K F vs' ds ∧
  ∃ d, S ds d ∧ ∀ F' H', Gr F Hc F' H' → Rp K (fr Hc F') (.ref x) d → Q .non H'
section
variable {K : PySem.W.Frag} {E : XK} {W : WX} {Γ : Gam} {d : D} {ds : List D} {tas : TA} {te : TE} {C C' : Addr} {S SN : List D → D → Prop} {T : List D → Addr → Prop} {sp : Sp}
theorem ed_callL {E' : XK} (h : Ea K tas Γ ds) (hs : S ds d) : Ed K (tCall (spOr (spR K S) sp) [] E' tas) Γ d := fun F0 H0 F H σ ok Q q => h F0 H0 F H σ ok _ fun vs F1 H1 g1 r1 =>
  .inl ⟨F1, ds, d, g1.s, by rw [List.append_nil]; exact r1, hs, fun v F2 H2 g2 r2 => q v F2 H2 (g1.trans g2) r2⟩
theorem ed_makeSL {E' : L2.St → XK} (h : Ea K tas Γ ds) (hs : S ds d) : Ed K (tMakeS C (spOr (spI K C S T) sp) E' tas) Γ d := fun F0 H0 F H σ ok Q q => h F0 H0 F H σ ok _ fun vs F1 H1 g1 r1 => fun x dx hx hdx ne =>
  .inl ⟨F1, H1, x, dx, vs, ds, rfl, g1.s, hx, hdx, ne, rfl, r1, .inl ⟨d, hs, fun F2 H2 g2 r2 => ⟨rfl, q _ F2 H2 (g1.trans g2) r2⟩⟩⟩
theorem xw_makeSL (h : Ea K tas Γ ds) (hs : T ds C') : XdW K W (tMakeS C (spOr (spI K C S T) sp) (WE W) tas) Γ C' := fun F0 H0 F H σ ok fin Q => h F0 H0 F H σ ok _ fun vs F1 H1 g1 r1 => fun x dx hx hdx ne =>
  .inl ⟨F1, H1, x, dx, vs, ds, rfl, g1.s, hx, hdx, ne, rfl, r1, .inr ⟨C', hs, fun F2 H2 g2 => fin F2 H2 ((ok.grow g1).grow g2)⟩⟩
theorem edN_makeS {E' : L2.St → XK} (h : Ea K tas Γ ds) (hs : SN ds d) : EdN K (tMakeS C (spOr sp (spIN K C SN)) E' tas) Γ d := fun F0 H0 F H σ ok Q q => h F0 H0 F H σ ok _ fun vs F1 H1 g1 r1 => fun x dx hx hdx ne =>
  .inr ⟨F1, H1, x, dx, vs, ds, rfl, g1.s, hx, hdx, ne, rfl, r1, d, hs, fun F2 H2 g2 r2 => ⟨rfl, q _ F2 H2 (g1.trans g2) (r2.mono (fr_weak (ok.g.h.trans g1.h)))⟩⟩
end
/-! ### an __init__ whose fields are new -/
def Rx (K : PySem.W.Frag) (x C : Addr) (gs : List (Str × D)) : Hp → Hp → Hp → Prop := fun H0 F H => ∃ dx fs, H x = some (.ins C dx fs) ∧ RpF K (fr H0 F) fs gs
def SdI (K : PySem.W.Frag) (ts : TS) (x C : Addr) (Γ : Gam) (gs : List (Str × D)) (Γ' : Gam) (gs' : List (Str × D)) : Prop := ∀ (F0 H0 F H : Hp) (σ : L2.St) (De : Ends), Ok K F0 H0 F H σ Γ → Rx K x C gs H0 F H →
  (∀ F1 H1 σ1, Same F F1 → Ok K F0 H0 F1 H1 σ1 Γ' → Rx K x C gs' H0 F1 H1 → De.nx σ1 H1) → ts De σ H
theorem RpF.len' {K : PySem.W.Frag} {H : Hp} : ∀ {vs : List (Str × V)} {ds : List (Str × D)}, RpF K H vs ds → vs.length = ds.length
  | _, _, .nil => rfl
  | _, _, .cons _ t => congrArg Nat.succ (RpF.len' t)
section
variable {K : PySem.W.Frag} {E : XK} {Γ Γ1 Γ' : Gam} {gs gs1 gs' : List (Str × D)} {d : D} {te : TE} {ts tu : TS} {x C : Addr} {f : Str}
theorem sdI_seq (h1 : SdI K ts x C Γ gs Γ1 gs1) (h2 : SdI K tu x C Γ1 gs1 Γ' gs') : SdI K (tSeq ts tu) x C Γ gs Γ' gs' := fun F0 H0 F H σ De ok r fin => h1 F0 H0 F H σ _ ok r fun F1 H1 σ1 e1 ok1 r1 =>
  h2 F0 H0 F1 H1 σ1 De ok1 r1 fun F2 H2 σ2 e2 ok2 r2 => fin F2 H2 σ2 (e1.trans e2) ok2 r2
theorem sdI_fld (i : Nat) (hi : Γ[i]? = some (.ob (some x) C gs)) (h : EdN K te Γ d) (c : Cls K C) (n : NoAttr K C f) (hl : gs.length < 1000) : SdI K (sFld K (tVar i) te f) x C Γ gs (Γ.set i (.ob (some x) C (putD f d gs))) (putD f d gs) := fun F0 H0 F H σ De ok r fin =>
  h F0 H0 F H σ ok _ fun v F1 H1 g1 r1 => by
    obtain ⟨p, ho, a, b, c', e', rr, at_⟩ := ok.ow i _ hi
    have hp : x = p := at_
    subst hp
    obtain ⟨dx, fs, hx, rf⟩ := r
    obtain ⟨c1, b1⟩ := g1.out c' hx
    have ok1 := ok.grow g1
    have rF := rf.mono (fr_mono (Hs := H0) g1.f)
    exact ⟨_, a, x, C, dx, fs, rfl, b1, c, n, by rw [RpF.len' rf]; exact hl, fin F1 _ σ g1.f (ok1.upOw hi a (.ins ((rF.mono (fr_sub _ _)).put (r1.mono (fr_sub _ _)))) rfl) ⟨dx, _, upd_same, rF.put r1⟩⟩
theorem rx_nil {F0 H0 F H : Hp} {σ : L2.St} {i : Nat} (ok : Ok K F0 H0 F H σ Γ) (hi : Γ[i]? = some (.ob (some x) C [])) : Rx K x C [] H0 F H := by
  obtain ⟨p, ho, a, b, c', e', rr, at_⟩ := ok.ow i _ hi
  have hp : x = p := at_
  subst hp
  cases rr with
  | @ins _ _ dx fs _ hf =>
    cases hf
    exact ⟨dx, [], b, .nil⟩
theorem sdI_start (h : Sd K E ts Γ (.nx Γ1)) {i : Nat} (h1 : Γ1[i]? = some (.ob (some x) C [])) : SdI K ts x C Γ [] Γ1 [] := fun F0 H0 F H σ De ok r fin => h F0 H0 F H σ De ok fun F1 H1 σ1 e ok1 => fin F1 H1 σ1 e ok1 (rx_nil ok1 h1)
end
section
variable {P : Program} {w : World} {K : PySem.W.Frag} {mg : Str → Option Value} {base : Heap} {x m qual : Str} {st : Stmt} {C : Addr} {N ps : List Str} {k : Nat} {S SN : List D → D → Prop} {T : List D → Addr → Prop}
theorem ciXN (D : Di K C m qual ps st) (hm : mg x = some (.ref C)) (sc : FnScope N ps (defScope st)) (len : ∀ ds d, S ds d → ds.length + 1 = ps.length) (len2 : ∀ ds C, T ds C → ds.length + 1 = ps.length) (len3 : ∀ ds d, SN ds d → ds.length + 1 = ps.length)
    (body : ∀ (f : Addr) (cdv : Value) (A : Around) (outer : List Env) (s : Shared) (H : Hp) (E : XK), Room k (A.deeper (envOfC qual (defScope st) s.heap.objs.size f cdv)) →
      ∃ t, PSs (cxOf (L2.CX P w) P w K mg base N qual (defScope st) f cdv A outer s H E) (defBody st) t ∧ (∀ ds d, S ds d → ∀ x, ∃ Γ gs, Γ[0]? = some (.ob (some x) C gs) ∧ d = .ins C gs ∧ Sd K E t (startI N x C ds) (.nx Γ)) ∧ (∀ ds C', T ds C' → ∀ x, Sd K E t (startI N x C ds) (.ex C')) ∧
        (∀ ds d, SN ds d → ∀ x, ∃ Γ gs, Γ[0]? = some (.ob (some x) C gs) ∧ d = .ins C gs ∧ SdI K t x C (startI N x C ds) [] Γ gs)) : Ci P w K mg base (L2.CX P w) (k + 1) x C (spOr (spI K C S T) (spIN K C SN)) := by
  obtain ⟨f, fd, M, F, b⟩ := D.ex
  refine ⟨f, fd, ps, M, F.okX sc (fun vs H Q E h => ?_) (fun cdv A outer s H vs Q E hr h => ?_), hm, b⟩
  · rcases h with ⟨F', Hc, x, dx, vs', ds, rfl, e, hx, hdx, ne, rfl, r, h⟩ | ⟨F', Hc, x, dx, vs', ds, rfl, e, hx, hdx, ne, rfl, r, d, hs, q⟩
    · rw [List.length_cons, r.len]
      rcases h with ⟨d, hs, q⟩ | ⟨C', hs, q⟩
      · exact len ds d hs
      · exact len2 ds C' hs
    · rw [List.length_cons, r.len]
      exact len3 ds d hs
  · obtain ⟨t, ht, hd, hx2, hn⟩ := body f cdv A outer s H E hr
    refine ⟨t, ht, ?_⟩
    rcases h with ⟨F', Hc, x, dx, vs', ds, rfl, e, hx, hdx, ne, rfl, r, h⟩ | ⟨F', Hc, x, dx, vs', ds, rfl, e, hx, hdx, ne, rfl, r, d, hs, q⟩
    · rcases h with ⟨d, hs, q⟩ | ⟨C', hs, q⟩
      · obtain ⟨Γ, gs, h0, rfl, hsd⟩ := hd ds d hs x
        refine hsd F' Hc F' _ _ _ (ok_startI e hx hdx ne r) fun F1 H1 σ1 e1 ok1 => ?_
        obtain ⟨F2, g2, _, _, p, hp, rp⟩ := ok1.freeze h0
        cases (show x = p from hp)
        exact q F2 H1 g2 rp
      · exact hx2 ds C' hs x F' Hc F' _ _ _ (ok_startI e hx hdx ne r) q
    · obtain ⟨Γ, gs, h0, rfl, hsd⟩ := hn ds d hs x
      have ok0 := ok_startI (N := N) (C := C) e hx hdx ne r
      refine hsd F' Hc F' _ _ _ ok0 (rx_nil (i := 0) ok0 rfl) fun F1 H1 σ1 e1 ok1 hr1 => ?_
      obtain ⟨p, ho, a, b1, c1, e', rr, at_⟩ := ok1.ow 0 _ h0
      have hp : x = p := at_
      subst hp
      obtain ⟨dx1, fs, hx1, rf⟩ := hr1
      have sF : Same F1 (upd F1 x (.ins C dx1 fs)) := same_upd c1
      refine q (upd F1 x (.ins C dx1 fs)) H1 ⟨ok1.g.f.trans sF, fun y u ey => ?_, ok1.g.h, fun y a1 a2 => ?_⟩ (.ins (fr_new hx upd_same) (rf.mono (fr_mono sF)))
      · by_cases hy : y = x
        · subst hy; rw [upd_same] at ey; rw [hx1]; exact ey
        · rw [upd_ne hy] at ey; exact ok1.g.s y u ey
      · have hy : y ≠ x := fun z => by subst z; exact a2 hx
        rw [upd_ne hy]
        exact ok1.g.n y a1 a2
theorem clRN (D : Df K mg x ps st) (sc : FnScope N ps (defScope st)) (len : ∀ ds d, S ds d → ds.length = ps.length) (len3 : ∀ ds d, SN ds d → ds.length = ps.length)
    (body : ∀ (f : Addr) (cdv : Value) (A : Around) (outer : List Env) (s : Shared) (H : Hp) (E : XK), Room k (A.deeper (envOfC x (defScope st) s.heap.objs.size f cdv)) →
      ∃ t, PSs (cxOf CX0 P w K mg base N x (defScope st) f cdv A outer s H E).nox (defBody st) t ∧ (∀ ds d, S ds d → Sd K E0 t (startG N ds) (.rt d)) ∧ (∀ ds d, SN ds d → Sd K E0 t (startG N ds) (.rn d))) : Cl P w K mg base CX0 (k + 1) x (spOr (spR K S) (spN K SN)) := by
  obtain ⟨f, fd, F, hm, b⟩ := D.ex
  refine ⟨f, fd, ps, F.ok sc (fun vs H Q E h => ?_) (fun cdv A outer s H vs Q E hr h => ?_), hm, F.kp, b⟩
  · rcases h with ⟨F', ds, d, e, r, hs, q⟩ | ⟨F', ds, d, e, r, hs, q⟩
    · rw [r.len]; exact len ds d hs
    · rw [r.len]; exact len3 ds d hs
  · obtain ⟨t, ht, hd, hn⟩ := body f cdv A outer s H E hr
    refine ⟨t, ht, ?_⟩
    rcases h with ⟨F', ds, d, e, r, hs, q⟩ | ⟨F', ds, d, e, r, hs, q⟩
    · exact run_rt (hd ds d hs) e r q
    · exact hn ds d hs F' H F' H _ _ (ok_start e r) fun v F2 H2 g1 r1 => q v F2 H2 g1 r1
end
end DL

namespace DL
open PySem PySem.Spec PyProof.Rows L2
/-! ### new lists within new lists, nobody else's -/
inductive Tr where
  | lf (d : D) | nd (ts : List Tr)
mutual
def Tr.toD : Tr → D
  | .lf d => d
  | .nd ts => .lst (Tr.toDs ts)
def Tr.toDs : List Tr → List D
  | [] => []
  | t :: ts => Tr.toD t :: Tr.toDs ts
end
mutual
inductive TrR (K : PySem.W.Frag) (F H : Hp) : V → Tr → List Addr → Prop
  | lf {v : V} {d : D} : Rp K F v d → TrR K F H v (.lf d) []
  | nd {p : Addr} {vs : List V} {ts : List Tr} {as : List Addr} : H p = some (.lst vs) → F p = none → TrA K F H vs ts as → p ∉ as → TrR K F H (.ref p) (.nd ts) (p :: as)
inductive TrA (K : PySem.W.Frag) (F H : Hp) : List V → List Tr → List Addr → Prop
  | nil : TrA K F H [] [] []
  | cons {v : V} {vs : List V} {t : Tr} {ts : List Tr} {as bs : List Addr} : TrR K F H v t as → TrA K F H vs ts bs → (∀ a ∈ as, a ∉ bs) → TrA K F H (v :: vs) (t :: ts) (as ++ bs)
end
section
variable {K : PySem.W.Frag} {F H F1 H1 : Hp}
mutual
theorem TrR.free : ∀ {v : V} {t : Tr} {as : List Addr}, TrR K F H v t as → ∀ a ∈ as, F a = none ∧ ∃ vs, H a = some (.lst vs)
  | _, _, _, .lf _, a, ha => nomatch ha
  | _, _, _, .nd h f r _, a, ha => by
    rcases List.mem_cons.mp ha with e | e
    · rw [e]; exact ⟨f, _, h⟩
    · exact TrA.free r a e
theorem TrA.free : ∀ {vs : List V} {ts : List Tr} {as : List Addr}, TrA K F H vs ts as → ∀ a ∈ as, F a = none ∧ ∃ vs, H a = some (.lst vs)
  | _, _, _, .nil, a, ha => nomatch ha
  | _, _, _, .cons h r _, a, ha => by
    rcases List.mem_append.mp ha with e | e
    · exact TrR.free h a e
    · exact TrA.free r a e
end
mutual
theorem TrR.nodup : ∀ {v : V} {t : Tr} {as : List Addr}, TrR K F H v t as → as.Nodup
  | _, _, _, .lf _ => List.nodup_nil
  | _, _, _, .nd _ _ r n => List.nodup_cons.mpr ⟨n, TrA.nodup r⟩
theorem TrA.nodup : ∀ {vs : List V} {ts : List Tr} {as : List Addr}, TrA K F H vs ts as → as.Nodup
  | _, _, _, .nil => List.nodup_nil
  | _, _, _, .cons h r n => List.nodup_append.mpr ⟨TrR.nodup h, TrA.nodup r, fun a ha b hb e => n a ha (e ▸ hb)⟩
end
mutual
theorem TrR.move : ∀ {v : V} {t : Tr} {as : List Addr}, TrR K F H v t as → Same F F1 → (∀ a ∈ as, F1 a = none) → (∀ a ∈ as, ∀ o, H a = some o → H1 a = some o) → TrR K F1 H1 v t as
  | _, _, _, .lf r, s, _, _ => .lf (r.mono s)
  | _, _, _, .nd h f r n, s, a, b => .nd (b _ List.mem_cons_self _ h) (a _ List.mem_cons_self) (TrA.move r s (fun x hx => a x (List.mem_cons_of_mem _ hx)) fun x hx => b x (List.mem_cons_of_mem _ hx)) n
theorem TrA.move : ∀ {vs : List V} {ts : List Tr} {as : List Addr}, TrA K F H vs ts as → Same F F1 → (∀ a ∈ as, F1 a = none) → (∀ a ∈ as, ∀ o, H a = some o → H1 a = some o) → TrA K F1 H1 vs ts as
  | _, _, _, .nil, _, _, _ => .nil
  | _, _, _, .cons h r n, s, a, b => .cons (TrR.move h s (fun x hx => a x (List.mem_append_left _ hx)) fun x hx => b x (List.mem_append_left _ hx)) (TrA.move r s (fun x hx => a x (List.mem_append_right _ hx)) fun x hx => b x (List.mem_append_right _ hx)) n
end
theorem TrR.grow {v : V} {t : Tr} {as : List Addr} (r : TrR K F H v t as) (g : Gr F H F1 H1) : TrR K F1 H1 v t as := r.move g.f (fun a ha => by
    obtain ⟨f, vs, h⟩ := r.free a ha
    exact (g.out f h).1) fun a _ o h => g.h a o h
theorem TrA.grow {vs : List V} {ts : List Tr} {as : List Addr} (r : TrA K F H vs ts as) (g : Gr F H F1 H1) : TrA K F1 H1 vs ts as := r.move g.f (fun a ha => by
    obtain ⟨f, vs, h⟩ := r.free a ha
    exact (g.out f h).1) fun a _ o h => g.h a o h
theorem TrA.snoc {v : V} {t : Tr} {bs : List Addr} (h : TrR K F H v t bs) : ∀ {vs : List V} {ts : List Tr} {as : List Addr}, TrA K F H vs ts as → (∀ a ∈ as, a ∉ bs) → TrA K F H (vs ++ [v]) (ts ++ [t]) (as ++ bs)
  | _, _, _, .nil, _ => by
    have z := TrA.cons h .nil fun a _ hb => nomatch hb
    rw [List.append_nil] at z
    exact z
  | _, _, _, .cons (as := as) (bs := cs) h1 r n, d => by
    have z := TrA.snoc h r fun a ha => d a (List.mem_append_right _ ha)
    rw [List.append_assoc]
    refine .cons h1 z fun a ha hb => ?_
    rcases List.mem_append.mp hb with e | e
    · exact n a ha e
    · exact d a (List.mem_append_left _ ha) e
theorem TrA.len : ∀ {vs : List V} {ts : List Tr} {as : List Addr}, TrA K F H vs ts as → vs.length = ts.length
  | _, _, _, .nil => rfl
  | _, _, _, .cons _ r _ => congrArg Nat.succ (TrA.len r)
theorem tra_lf : ∀ {vs : List V} {ds : List D}, RpA K F vs ds → TrA K F H vs (ds.map .lf) []
  | _, _, .nil => .nil
  | _, _, .cons h r => TrA.cons (as := []) (.lf h) (tra_lf r) fun a ha => nomatch ha
/-- for a while frozen -/
def fzT (as : List Addr) (F H : Hp) : Hp := fun a => if a ∈ as then H a else F a
theorem fzT_in {as : List Addr} {a : Addr} (h : a ∈ as) : fzT as F H a = H a := if_pos h
theorem fzT_out {as : List Addr} {a : Addr} (h : a ∉ as) : fzT as F H a = F a := if_neg h
theorem fzT_sub {as : List Addr} (h : ∀ a ∈ as, F a = none) : Same F (fzT as F H) := fun a o e => by
  rw [fzT_out fun z => by rw [h a z] at e; cases e]
  exact e
theorem fzT_sup {as : List Addr} (s : Same F H) : Same (fzT as F H) H := fun a o e => by
  by_cases z : a ∈ as
  · rw [fzT_in z] at e; exact e
  · rw [fzT_out z] at e; exact s a o e
mutual
theorem TrR.rp : ∀ {v : V} {t : Tr} {as : List Addr}, TrR K F H v t as → ∀ {G : Hp}, Same F G → (∀ a ∈ as, ∀ o, H a = some o → G a = some o) → Rp K G v t.toD
  | _, _, _, .lf r, _, s, _ => r.mono s
  | _, _, _, .nd h f r n, _, s, b => .lst (b _ List.mem_cons_self _ h) (TrA.rp r s fun x hx => b x (List.mem_cons_of_mem _ hx))
theorem TrA.rp : ∀ {vs : List V} {ts : List Tr} {as : List Addr}, TrA K F H vs ts as → ∀ {G : Hp}, Same F G → (∀ a ∈ as, ∀ o, H a = some o → G a = some o) → RpA K G vs (Tr.toDs ts)
  | _, _, _, .nil, _, _, _ => .nil
  | _, _, _, .cons h r n, _, s, b => .cons (TrR.rp h s fun x hx => b x (List.mem_append_left _ hx)) (TrA.rp r s fun x hx => b x (List.mem_append_right _ hx))
end
end
/-! ### expressions that make them -/
def Wt (K : PySem.W.Frag) (te : TE) (Γ : Gam) (t : Tr) : Prop := ∀ (F0 H0 F H : Hp) (σ : L2.St), Ok K F0 H0 F H σ Γ → ∀ Q : VK, (∀ v as F1 H1, Gr F H F1 H1 → TrR K F1 H1 v t as → (∀ a ∈ as, H a = none) → Q v H1) → te σ H Q
def Wa (K : PySem.W.Frag) (ta : TA) (Γ : Gam) (ts : List Tr) : Prop := ∀ (F0 H0 F H : Hp) (σ : L2.St), Ok K F0 H0 F H σ Γ → ∀ Q : List V → Hp → Prop, (∀ vs as F1 H1, Gr F H F1 H1 → TrA K F1 H1 vs ts as → (∀ a ∈ as, H a = none) → Q vs H1) → ta σ H Q
section
variable {K : PySem.W.Frag} {Γ : Gam} {d : D} {ds : List D} {tas ta : TA} {te : TE} {t : Tr} {ts : List Tr}
theorem wt_lf (h : Ed K te Γ d) : Wt K te Γ (.lf d) := fun F0 H0 F H σ ok Q q => h F0 H0 F H σ ok Q fun v F1 H1 g r => q v [] F1 H1 g (.lf r) fun a ha => nomatch ha
theorem wt_ow (h : Ew K te Γ ds) : Wt K te Γ (.nd (ds.map .lf)) := fun F0 H0 F H σ ok Q q => h F0 H0 F H σ ok Q fun p vs F1 H1 g hp hf h1 r => q (.ref p) [p] F1 H1 g (.nd h1 hf (tra_lf r) fun z => nomatch z) fun a ha => by
  rw [List.mem_singleton.mp ha]; exact hp
theorem wa_nil : Wa K tNil Γ [] := fun F0 H0 F H σ ok Q q => q [] [] F H (Gr.refl ok.g.s) .nil fun a ha => nomatch ha
theorem wa_cons (h : Wt K te Γ t) (hr : Wa K ta Γ ts) : Wa K (tCons te ta) Γ (t :: ts) := fun F0 H0 F H σ ok Q q => h F0 H0 F H σ ok _ fun v as F1 H1 g1 r1 n1 =>
  hr F0 H0 F1 H1 σ (ok.grow g1) _ fun vs bs F2 H2 g2 r2 n2 => q (v :: vs) (as ++ bs) F2 H2 (g1.trans g2) (.cons (r1.grow g2) r2 fun a ha hb => by
    obtain ⟨_, ws, e⟩ := r1.free a ha
    rw [n2 a hb] at e; cases e) fun a ha => by
    rcases List.mem_append.mp ha with e | e
    · exact n1 a e
    · exact g1.h.free (n2 a e)
theorem wt_lst (h : Wa K tas Γ ts) (hl : ts.length ≤ 100000 := by exact Nat.le_of_ble_eq_true rfl) : Wt K (tLst tas) Γ (.nd ts) := fun F0 H0 F H σ ok Q q => h F0 H0 F H σ ok _ fun vs as F1 H1 g1 r1 n1 =>
  ⟨by rw [r1.len]; exact Nat.le_trans hl (by decide), fun p hp => by
    have g2 := Gr.newO (o := .lst vs) g1.s hp
    have np : p ∉ as := fun z => by
      obtain ⟨_, ws, e⟩ := r1.free p z
      rw [hp] at e; cases e
    exact q (.ref p) (p :: as) F1 _ (g1.trans g2) (.nd upd_same (g1.s.free hp) (r1.grow g2) np) fun a ha => by
      rcases List.mem_cons.mp ha with e | e
      · rw [e]; exact g1.h.free hp
      · exact n1 a e⟩
theorem wt_map {α : Type} {wi : TI} {g : TG} {vs : List Nat} (xs : List α) (enc : α → D) (f : α → Tr) (hw : Ei K wi Γ (xs.map enc)) (hl : xs.length ≤ 100000)
    (h : ∀ x ∈ xs, ∃ js Γ1, Eg K g js (enc x) (wipeG Γ vs) Γ1 ∧ (∀ j ∈ js, j ∈ vs) ∧ Wt K te Γ1 (f x)) : Wt K (tLc wi g tYes te vs) Γ (.nd (xs.map f)) := fun F0 H0 F H σ ok Q q =>
  hw F0 H0 F H σ ok _ fun J F1 H1 g1 wk D hD => by
    have hDH : H D = none := g1.h.free hD
    have hDF : F1 D = none := g1.s.free hD
    have set : ∀ {F' H' : Hp} {ws : List V}, Gr F H F' H' → F' D = none → Gr F H F' (upd H' D (.lst ws)) := fun {F' H' ws} g hf =>
      ⟨g.f, fun x y e => by rw [upd_ne (ne_of_none e hf)]; exact g.s x y e, fun x y e => by rw [upd_ne (ne_of_none e hDH)]; exact g.h x y e, g.n⟩
    let St := fun (i : Nat) (H' : Hp) => ∃ F' acc as, i ≤ xs.length ∧ Same F1 F' ∧ Gr F H F' H' ∧ F' D = none ∧ H' D = some (.lst acc) ∧ D ∉ as ∧ (∀ a ∈ as, H a = none) ∧ TrA K F' H' acc ((xs.take i).map f) as
    refine ⟨fun i m H' => m = xs.length - i ∧ St i H', ⟨xs.length, rfl, F1, [], [], Nat.zero_le _, Same.refl _, set g1 hDF, hDF, upd_same, (fun z => nomatch z), (fun a ha => nomatch ha), .nil⟩, ?_⟩
    rintro i m H2 ⟨rfl, F2, acc, as, hi, s2, g2, f2, e2, nD, nn, r2⟩
    have lenx : (xs.map enc).length = xs.length := List.length_map _
    by_cases hlt : i < xs.length
    · refine .inr ⟨wk.go i F2 H2 s2 g2.s (by rw [lenx]; exact hlt), St (i + 1), fun H' z => ⟨xs.length - (i + 1), by omega, rfl, z⟩, fun x H3 hy => ?_⟩
      obtain ⟨F3, d, g3, hd, rx⟩ := wk.yl i x F2 H2 H3 s2 g2.s (by rw [lenx]; exact hlt) hy
      have hx : xs[i]? = some xs[i] := List.getElem?_eq_getElem hlt
      rw [List.getElem?_map, hx] at hd
      cases hd
      obtain ⟨js, Γ1, hg, hj, he⟩ := h xs[i] (List.getElem_mem hlt)
      have g03 := g2.trans g3
      have f3 : F3 D = none ∧ H3 D = some (.lst acc) := g3.out f2 e2
      refine hg F0 H0 F3 H3 _ x ((ok.grow g03).wipe vs) rx _ fun σ4 ok4 wp => ⟨(wp vs hj).trans (wipe_wipe σ vs), ?_⟩
      refine et_yes F0 H0 F3 H3 σ4 ok4 _ fun F4 H4 g4 => ?_
      have f4 := g4.out f3.1 f3.2
      have tk : xs.take (i + 1) = xs.take i ++ [xs[i]] := by rw [List.take_add_one, hx]; rfl
      rw [if_pos rfl]
      refine he F0 H0 F4 H4 σ4 (ok4.grow g4) _ fun v bs F5 H5 g5 r5 n5 => ?_
      have f5 := g5.out f4.1 f4.2
      have gg := (g03.trans g4).trans g5
      have r2' := ((r2.grow g3).grow g4)
      have Db : D ∉ bs := fun z => by rw [n5 D z] at f4; cases f4.2
      have dis : ∀ a ∈ as, a ∉ bs := fun a ha hb => by
        obtain ⟨_, ws, e⟩ := r2'.free a ha
        rw [n5 a hb] at e; cases e
      have stay : ∀ a, a ≠ D → ∀ o, H5 a = some o → (upd H5 D (.lst (acc ++ [v]))) a = some o := fun a ha o e => by rw [upd_ne ha]; exact e
      refine ⟨acc, f5.2, ?_, F5, acc ++ [v], as ++ bs, by omega, ((s2.trans g3.f).trans g4.f).trans g5.f, set gg f5.1, f5.1, upd_same, (fun z => (List.mem_append.mp z).elim nD Db), (fun a ha => ?_), ?_⟩
      · have z := r2.len
        rw [List.length_map, List.length_take] at z
        have z3 : acc.length < 100000 := by omega
        exact Nat.lt_of_lt_of_le z3 (by decide)
      · rcases List.mem_append.mp ha with e | e
        · exact nn a e
        · exact (g03.trans g4).h.free (n5 a e)
      · rw [tk, List.map_append]
        have z := TrA.snoc r5 (r2'.grow g5) dis
        exact z.move (Same.refl _) (fun a ha => (z.free a ha).1) fun a ha o e => stay a (fun y => by subst y; exact (List.mem_append.mp ha).elim nD Db) o e
    · have e : i = xs.length := by omega
      subst e
      refine .inl ⟨by have z := wk.st F2 H2 s2 g2.s; rw [lenx] at z; exact z, ?_⟩
      rw [List.take_length] at r2
      exact q (.ref D) (D :: as) F2 H2 g2 (.nd e2 f2 r2 nD) fun a ha => by
        rcases List.mem_cons.mp ha with e | e
        · rw [e]; exact hDH
        · exact nn a e
end
end DL

namespace DL
open PySem PySem.Spec PyProof.Rows L2
/-! ### a tree in a slot: looked at, handed in, changed -/
structure Sk (K : PySem.W.Frag) (hi : Nat) (t : Tr) (Γ : Gam) (F0 H0 F H : Hp) (σ : L2.St) (v : V) (as : List Addr) : Prop where
  ok : Ok K F0 H0 F H σ Γ
  at_ : σ[hi]? = some (some v)
  tr : TrR K F H v t as
  nw : ∀ a ∈ as, H0 a = none
def NoOw (Γ : Gam) : Prop := ∀ (i : Nat) (o : Ow), Γ[i]? ≠ some (.own o)
section
variable {K : PySem.W.Frag} {E : XK} {hi mi : Nat} {t : Tr} {Γ : Gam} {F0 H0 F H F1 H1 : Hp} {σ : L2.St} {v : V} {as : List Addr} {te : TE} {De : Ends} {d dm : D}
theorem Sk.grow (s : Sk K hi t Γ F0 H0 F H σ v as) (g : Gr F H F1 H1) : Sk K hi t Γ F0 H0 F1 H1 σ v as := ⟨s.ok.grow g, s.at_, s.tr.grow g, s.nw⟩
theorem sk_new (ok : Ok K F0 H0 F H σ Γ) (h : Wt K te Γ t) (hl : hi < Γ.length) (fin : ∀ F1 H1 σ1 v as, Same F F1 → Sk K hi t (Γ.set hi .no) F0 H0 F1 H1 σ1 v as → De.nx σ1 H1) : tAsg te (gName hi) De σ H :=
  h F0 H0 F H σ ok _ fun v as F1 H1 g1 r n => fin F1 H1 _ v as g1.f ⟨(ok.grow g1).no hi _, List.getElem?_set_self (by rw [ok.len]; exact hl), r, fun a ha => ok.g.h.free (n a ha)⟩
/-- frozen for a while -/
theorem Sk.fz (s : Sk K hi t Γ F0 H0 F H σ v as) (no : NoOw Γ) : Ok K F0 H0 (fzT as F H) H σ (Γ.set hi (.fz t.toD)) := by
  have fn : ∀ a ∈ as, F a = none := fun a ha => (s.tr.free a ha).1
  have sub := fzT_sub (H := H) fn
  have ok := s.ok
  refine ⟨⟨ok.g.f.trans sub, fzT_sup ok.g.s, ok.g.h, fun a h1 h2 => ?_⟩, by simpa using ok.len, fun j e h => ?_, fun j o h => ?_, fun j k o1 o2 p hjk h1 h2 h3 h4 => ?_⟩
  · have na : a ∉ as := fun z => h2 (s.nw a z)
    rw [fzT_out na]
    exact ok.g.n a h1 h2
  · rcases set_get h with ⟨rfl, q⟩ | ⟨n, q⟩
    · cases q
      exact ⟨v, s.at_, s.tr.rp sub fun a ha o e => by rw [fzT_in ha]; exact e⟩
    · obtain ⟨w, a, b⟩ := ok.fz j e q
      exact ⟨w, a, b.mono sub⟩
  · rcases set_get h with ⟨rfl, q⟩ | ⟨n, q⟩
    · cases q
    · exact absurd q (no j o)
  · rcases set_get h1 with ⟨rfl, q⟩ | ⟨n, q⟩
    · cases q
    · exact absurd q (no j o1)
theorem sk_test {tt : TT} {tb : TS} (s : Sk K hi t Γ F0 H0 F H σ v as) (no : NoOw Γ) (h : Et K tt (Γ.set hi (.fz t.toD)) false) (fin : ∀ H1, Sk K hi t Γ F0 H0 F H1 σ v as → De.nx σ H1) : tIfS tt tb tNext De σ H := by
  refine h F0 H0 (fzT as F H) H σ (s.fz no) _ fun F3 H3 g3 => ?_
  exact fin H3 (s.grow ⟨Same.refl F, fun a o e => g3.h a o (s.ok.g.s a o e), g3.h, fun _ e _ => e⟩)
theorem sk_call {sp : Sp} {SN : List D → D → Prop} (s : Sk K hi t Γ F0 H0 F H σ v as) (hs : SN [t.toD] dm) (ne : mi ≠ hi)
    (fin : ∀ F1 H1 σ1, Same F F1 → Sk K hi t (Γ.set mi (.fz dm)) F0 H0 F1 H1 σ1 v as → De.nx σ1 H1) : tAsg (tCall (spOr sp (spN K SN)) [] E (tCons (tVar hi) tNil)) (gName mi) De σ H := by
  have fn : ∀ a ∈ as, F a = none := fun a ha => (s.tr.free a ha).1
  have sub := fzT_sub (H := H) fn
  refine ⟨v, s.at_, .inr ⟨fzT as F H, [t.toD], dm, fzT_sup s.ok.g.s, by rw [List.append_nil]; exact .one (s.tr.rp sub fun a ha o e => by rw [fzT_in ha]; exact e), hs, fun v2 F2 H2 g2 r2 => ?_⟩⟩
  let G : Hp := fun a => if a ∈ as then none else F2 a
  have Gi : ∀ {a}, a ∈ as → G a = none := fun {a} h => if_pos h
  have Go : ∀ {a}, a ∉ as → G a = F2 a := fun {a} h => if_neg h
  have g : Gr F H G H2 := by
    refine ⟨fun a o e => ?_, fun a o e => ?_, g2.h, fun a h1 h2 => ?_⟩
    · have na : a ∉ as := fun z => by rw [fn a z] at e; cases e
      rw [Go na]
      exact g2.f a o (sub a o e)
    · by_cases z : a ∈ as
      · rw [Gi z] at e; cases e
      · rw [Go z] at e; exact g2.s a o e
    · by_cases z : a ∈ as
      · exact Gi z
      · rw [Go z]
        exact g2.n a (by rw [fzT_out z]; exact h1) h2
  have fs : Same (fr H F2) G := fun a o e => by
    have e2 := fr_sub H F2 a o e
    by_cases z : a ∈ as
    · obtain ⟨_, ws, hw⟩ := s.tr.free a z
      have e3 := g2.f a _ (show fzT as F H a = some (.lst ws) by rw [fzT_in z]; exact hw)
      unfold fr at e
      rw [if_pos ⟨(by rw [hw]; exact fun y => (nomatch y)), ws, e3⟩] at e
      cases e
    · rw [Go z]; exact e2
  have s2 := s.grow g
  exact fin G H2 _ g.f ⟨s2.ok.set (r2.mono fs), by rw [List.getElem?_set_ne ne]; exact s2.at_, s2.tr, s2.nw⟩
/-! ### it is changed -/
theorem Ok.poke (ok : Ok K F0 H0 F H σ Γ) (no : NoOw Γ) {p : Addr} {o : HO} (h1 : F p = none) (h2 : H0 p = none) : Ok K F0 H0 F (upd H p o) σ Γ :=
  ⟨⟨ok.g.f, fun a u e => by rw [upd_ne (ne_of_none e h1)]; exact ok.g.s a u e, fun a u e => by rw [upd_ne (ne_of_none e h2)]; exact ok.g.h a u e, ok.g.n⟩, ok.len, ok.fz, fun i o' h => absurd h (no i o'), fun i j a b p' _ h => absurd h (no i a)⟩
theorem Ok.noAt (ok : Ok K F0 H0 F H σ Γ) {i : Nat} (h : Γ[i]? = some .no) (x : Option V) : Ok K F0 H0 F H (σ.set i x) Γ := by
  have z := ok.no i x
  have e : Γ.set i .no = Γ := by
    apply List.ext_getElem?
    intro j
    by_cases hj : i = j
    · subst hj
      rw [List.getElem?_set_self (List.getElem?_eq_some_iff.mp h).1, h]
    · rw [List.getElem?_set_ne hj]
  rw [e] at z
  exact z
theorem for_at {g : TG} {ts : TS} (q : Addr) (vs : List V) (P : Nat → L2.St → Hp → Prop) (h0 : ∀ Q : VK, Q (.ref q) H → te σ H Q) (hq : ∀ i σ H, P i σ H → H q = some (.lst vs)) (p0 : P 0 σ H)
    (step : ∀ i (hi : i < vs.length) σ H, P i σ H → g vs[i] σ H fun σ2 H2 => ts { De with nx := P (i + 1), ct := P (i + 1), bk := De.nx } σ2 H2) (fin : ∀ σ H, P vs.length σ H → De.nx σ H) : tFor (iList K te) g ts De σ H := by
  have sq : ∀ {i σ H}, P i σ H → SqL K H q vs := fun {i σ H} p => .inl (.inl (hq i σ H p))
  refine h0 _ ⟨q, rfl, ⟨vs, sq p0⟩, fun i m σ H => m = vs.length - i ∧ i ≤ vs.length ∧ P i σ H, ⟨vs.length, rfl, Nat.zero_le _, p0⟩, ?_⟩
  rintro i m σ2 H2 ⟨rfl, hi, p⟩
  by_cases hlt : i < vs.length
  · refine .inr ⟨⟨vs, vs[i], sq p, List.getElem?_eq_getElem hlt⟩, P (i + 1), fun σ' H' z => ⟨vs.length - (i + 1), by omega, rfl, by omega, z⟩, fun x H3 hy => ?_⟩
    obtain ⟨rfl, hx⟩ := hy
    have e := hx vs (sq p)
    rw [List.getElem?_eq_getElem hlt] at e
    cases e
    exact step i hlt σ2 H3 p
  · have e : i = vs.length := by omega
    subst e
    exact .inl ⟨⟨vs, sq p, Nat.le_refl _⟩, fin σ2 H2 p⟩
end
end DL

namespace DL
open PySem PySem.Spec PyProof.Rows L2
/-! ### a text, a list, tables, a list: handed in, then changed -/
def hT (x : Str) (bs : List D) (Us : List (List (List D))) (es : List D) : Tr := .nd [.lf (.str x), .nd (bs.map .lf), .nd (Us.map fun U => .nd (U.map fun r => .nd (r.map .lf))), .nd (es.map .lf)]
def flatL (L : List (Addr × List Addr)) : List Addr := L.flatMap fun p => p.1 :: p.2
section
variable {K : PySem.W.Frag} {F H : Hp}
theorem tra_lf_inv : ∀ {ds : List D} {vs : List V} {as : List Addr}, TrA K F H vs (ds.map .lf) as → as = [] ∧ vs.length = ds.length
  | [], _, _, r => by cases r; exact ⟨rfl, rfl⟩
  | d :: ds, _, _, r => by
    cases r with
    | cons h r n =>
      cases h
      obtain ⟨a, b⟩ := tra_lf_inv r
      exact ⟨by rw [a]; rfl, by rw [List.length_cons, b]; rfl⟩
theorem list_inv {ds : List D} {v : V} {as : List Addr} (r : TrR K F H v (.nd (ds.map .lf)) as) : ∃ p ws, v = .ref p ∧ as = [p] ∧ H p = some (.lst ws) ∧ ws.length = ds.length := by
  cases r with
  | nd h f r n =>
    obtain ⟨a, b⟩ := tra_lf_inv r
    subst a
    exact ⟨_, _, rfl, rfl, h, b⟩
theorem rows_inv : ∀ {rs : List (List D)} {vs : List V} {as : List Addr}, TrA K F H vs (rs.map fun r => .nd (r.map .lf)) as → vs = as.map V.ref ∧ as.length = rs.length ∧ ∀ a ∈ as, ∃ ws, H a = some (.lst ws)
  | [], _, _, r => by cases r; exact ⟨rfl, rfl, fun a ha => nomatch ha⟩
  | d :: rs, _, _, r => by
    cases r with
    | cons h r n =>
      obtain ⟨p, ws, rfl, rfl, hp, _⟩ := list_inv h
      obtain ⟨a, b, c⟩ := rows_inv r
      refine ⟨by rw [a]; rfl, by rw [List.length_append, b, List.length_singleton, List.length_cons, Nat.add_comm], fun x hx => ?_⟩
      rcases List.mem_append.mp hx with e | e
      · rw [List.mem_singleton.mp e]; exact ⟨ws, hp⟩
      · exact c x e
theorem tabs_inv : ∀ {Us : List (List (List D))} {vs : List V} {as : List Addr}, TrA K F H vs (Us.map fun U => .nd (U.map fun r => .nd (r.map .lf))) as →
    ∃ L : List (Addr × List Addr), vs = L.map (fun p => V.ref p.1) ∧ as = flatL L ∧ ∀ p ∈ L, H p.1 = some (.lst (p.2.map V.ref)) ∧ (∃ U ∈ Us, p.2.length = U.length) ∧ ∀ r ∈ p.2, ∃ ws, H r = some (.lst ws)
  | [], _, _, r => by cases r; exact ⟨[], rfl, rfl, fun p hp => nomatch hp⟩
  | U :: Us, _, _, r => by
    cases r with
    | cons h r n =>
      obtain ⟨L, a, b, c⟩ := tabs_inv r
      cases h with
      | @nd p vs' ts' as' hp hf hr hn =>
        obtain ⟨x, y, z⟩ := rows_inv hr
        refine ⟨(p, as') :: L, by rw [a]; rfl, by rw [b]; rfl, fun q hq => ?_⟩
        rcases List.mem_cons.mp hq with e | e
        · subst e
          exact ⟨by rw [hp, x], ⟨U, List.mem_cons_self, y⟩, z⟩
        · obtain ⟨c1, ⟨V', c2, c3⟩, c4⟩ := c q e
          exact ⟨c1, ⟨V', List.mem_cons_of_mem _ c2, c3⟩, c4⟩
structure Hk (H : Hp) (bs : List D) (Us : List (List (List D))) (es : List D) (v : V) (as : List Addr) (h b m e : Addr) (vx : V) (wb we : List V) (L : List (Addr × List Addr)) : Prop where
  qv : v = .ref h
  qh : H h = some (.lst [vx, .ref b, .ref m, .ref e])
  qb : H b = some (.lst wb)
  lb : wb.length = bs.length
  qm : H m = some (.lst (L.map fun p => V.ref p.1))
  qe : H e = some (.lst we)
  qL : ∀ p ∈ L, H p.1 = some (.lst (p.2.map V.ref)) ∧ (∃ U ∈ Us, p.2.length = U.length) ∧ ∀ r ∈ p.2, ∃ ws, H r = some (.lst ws)
  qa : as = h :: b :: m :: (flatL L ++ [e])
theorem hk_of {x : Str} {bs : List D} {Us : List (List (List D))} {es : List D} {v : V} {as : List Addr} (r : TrR K F H v (hT x bs Us es) as) : ∃ h b m e vx wb we L, Hk H bs Us es v as h b m e vx wb we L := by
  unfold hT at r
  cases r with
  | nd hh f r n =>
    cases r with
    | cons r1 r n1 =>
      cases r1
      cases r with
      | cons r2 r n2 =>
        obtain ⟨b, wb, rfl, rfl, hb, lb⟩ := list_inv r2
        cases r with
        | cons r3 r n3 =>
          cases r3 with
          | nd hm fm rm nm =>
            obtain ⟨L, e1, e2, e3⟩ := tabs_inv rm
            subst e1 e2
            cases r with
            | cons r4 r n4 =>
              obtain ⟨e, we, rfl, rfl, he, le⟩ := list_inv r4
              cases r
              exact ⟨_, _, _, _, _, _, _, L, rfl, hh, hb, lb, hm, he, e3, by simp⟩
end
section
variable {K : PySem.W.Frag} {E : XK} {hi mi ti ri : Nat} {Γ : Gam} {F0 H0 F H Hs : Hp} {σ : L2.St} {De : Ends} {as : List Addr} {h b m e : Addr} {vx v : V} {wb we : List V} {L : List (Addr × List Addr)} {bs es : List D} {Us : List (List (List D))}
/-- what is still as it was -/
structure Mp (K : PySem.W.Frag) (hi : Nat) (Γ : Gam) (F0 H0 F Hs : Hp) (as : List Addr) (h : Addr) (del : List Addr) (σ : L2.St) (H : Hp) : Prop where
  ok : Ok K F0 H0 F H σ Γ
  at_ : σ[hi]? = some (some (.ref h))
  as : ∀ a ∈ as, a ∉ del → H a = Hs a
theorem Mp.mono {del del' : List Addr} (s : Mp K hi Γ F0 H0 F Hs as h del σ H) (c : ∀ a ∈ del, a ∈ del') : Mp K hi Γ F0 H0 F Hs as h del' σ H := ⟨s.ok, s.at_, fun a ha n => s.as a ha fun z => n (c a z)⟩
theorem Mp.poke {del : List Addr} {p : Addr} {o : HO} (s : Mp K hi Γ F0 H0 F Hs as h del σ H) (no : NoOw Γ) (fr : ∀ a ∈ as, F a = none ∧ H0 a = none) (hp : p ∈ as) : Mp K hi Γ F0 H0 F Hs as h (p :: del) σ (upd H p o) :=
  ⟨s.ok.poke no (fr p hp).1 (fr p hp).2, s.at_, fun a ha n => by
    rw [upd_ne fun z => n (by rw [z]; exact List.mem_cons_self)]
    exact s.as a ha fun z => n (List.mem_cons_of_mem _ z)⟩
theorem Mp.setNo {del : List Addr} {i : Nat} {x : Option V} (s : Mp K hi Γ F0 H0 F Hs as h del σ H) (hn : Γ[i]? = some .no) (ne : i ≠ hi) : Mp K hi Γ F0 H0 F Hs as h del (σ.set i x) H := ⟨s.ok.noAt hn x, by rw [List.getElem?_set_ne ne]; exact s.at_, s.as⟩
theorem flat_at {i : Nat} (hi : i < L.length) : flatL L = flatL (L.take i) ++ (L[i].1 :: L[i].2) ++ flatL (L.drop (i + 1)) := by
  have e := List.take_append_drop i L
  rw [List.drop_eq_getElem_cons hi] at e
  conv => lhs; rw [← e]
  unfold flatL
  rw [List.flatMap_append, List.flatMap_cons]
  simp
theorem flat_take {i : Nat} (hi : i < L.length) : flatL (L.take (i + 1)) = flatL (L.take i) ++ (L[i].1 :: L[i].2) := by
  rw [List.take_add_one, List.getElem?_eq_getElem hi]
  unfold flatL
  rw [List.flatMap_append]
  simp
theorem ev_ix {k : Int} {vs : List V} {w : V} (ha : σ[hi]? = some (some (.ref h))) (hh : H h = some (.lst vs)) (hk : atI vs k = some w) : ∀ Q : VK, Q w H → tOp (rIx K) (tVar hi) (tC (.int k)) σ H Q := fun Q q =>
  ⟨.ref h, ha, .inl ⟨h, vs, k, w, rfl, rfl, SqL.of hh, hk, q⟩⟩
theorem mp_for (s : Mp K hi Γ F0 H0 F Hs as h [] σ H) (hk : Hk Hs bs Us es v as h b m e vx wb we L) (nd : as.Nodup) (no : NoOw Γ) (fr : ∀ a ∈ as, F a = none ∧ H0 a = none) (sz : ∀ U ∈ Us, U.length ≤ 1000) (n1 : Γ[ti]? = some .no) (n2 : Γ[ri]? = some .no) (ht : ti ≠ hi) (hr : ri ≠ hi) (htr : ri ≠ ti)
    (fin : ∀ σ1 H1, Mp K hi Γ F0 H0 F Hs as h (flatL L) σ1 H1 → De.nx σ1 H1) :
    tFor (iList K (tOp (rIx K) (tVar hi) (tC (.int 2)))) (gName ti) (tSeq (tFor (iList K (tVar ti)) (gName ri) (tDrop (tBM0 K "list" rClear (tVar ri)))) (tDrop (tBM K "list" rAppend (tVar ti) (tCons (tC (.int 7)) tNil)))) De σ H := by
  have ha := hk.qa
  subst ha
  have ndh := List.nodup_cons.mp nd
  have ndb := List.nodup_cons.mp ndh.2
  have ndm := List.nodup_cons.mp ndb.2
  have ndL := (List.nodup_append.mp ndm.2).1
  have mL : ∀ a ∈ flatL L, a ∈ h :: b :: m :: (flatL L ++ [e]) := fun a z => by simp [z]
  have mm : m ∈ h :: b :: m :: (flatL L ++ [e]) := by simp
  have tkL : ∀ i, ∀ a ∈ flatL (L.take i), a ∈ flatL L := fun i a z => by
    obtain ⟨p, hp, q⟩ := List.mem_flatMap.mp z
    exact List.mem_flatMap.mpr ⟨p, List.mem_of_mem_take hp, q⟩
  have nm : m ∉ flatL L := fun z => ndm.1 (List.mem_append_left _ z)
  refine for_at m (L.map fun p => V.ref p.1) (fun i σ H => Mp K hi Γ F0 H0 F Hs (h :: b :: m :: (flatL L ++ [e])) h (flatL (L.take i)) σ H) (ev_ix s.at_ (by rw [s.as h List.mem_cons_self (fun z => nomatch z)]; exact hk.qh) rfl) (fun i σ H p => by rw [p.as m mm fun z => nm (tkL i m z)]; exact hk.qm) s (fun i hil σ H p => ?_) fun σ1 H1 p => ?_
  · have hi' : i < L.length := by simpa using hil
    have hp := List.getElem_mem hi'
    obtain ⟨c1, ⟨U, hU, c2⟩, c3⟩ := hk.qL _ hp
    have fa := flat_at hi'
    rw [List.getElem_map]
    generalize eL : L[i] = pr at hp c1 c2 c3 fa
    obtain ⟨t, rs⟩ := pr
    have nd2 := fa ▸ ndL
    have nd3 := (List.nodup_append.mp nd2).1
    have nd4 := List.nodup_append.mp nd3
    have nd5 := List.nodup_cons.mp nd4.2.1
    have tm : t ∈ flatL L := by rw [fa]; simp
    have rm : ∀ r ∈ rs, r ∈ flatL L := fun r z => by rw [fa]; simp [z]
    have t0 : t ∉ flatL (L.take i) := fun z => nd4.2.2 t z t List.mem_cons_self rfl
    have r0 : ∀ r ∈ rs, r ∉ flatL (L.take i) := fun r hr z => nd4.2.2 r z r (List.mem_cons_of_mem _ hr) rfl
    show tFor (iList K (tVar ti)) (gName ri) _ { De with nx := _, ct := _, bk := _ } (σ.set ti (some (.ref t))) H
    have tl : ti < σ.length := by rw [p.ok.len]; exact (List.getElem?_eq_some_iff.mp n1).1
    refine for_at t (rs.map V.ref) (fun k σ H => Mp K hi Γ F0 H0 F Hs (h :: b :: m :: (flatL L ++ [e])) h (flatL (L.take i) ++ rs.take k) σ H ∧ σ[ti]? = some (some (.ref t))) (fun Q q => ⟨.ref t, List.getElem?_set_self tl, q⟩) (fun k σ H p2 => ?_) ⟨by rw [List.take_zero, List.append_nil]; exact p.setNo n1 ht, List.getElem?_set_self tl⟩ (fun k hkl σ2 H2 p2 => ?_) fun σ2 H2 p2 => ?_
    · rw [p2.1.as t (mL t tm) fun z => ?_]
      · exact c1
      · rcases List.mem_append.mp z with y | y
        · exact t0 y
        · exact nd5.1 (List.mem_of_mem_take y)
    · have hk' : k < rs.length := by simpa using hkl
      have hr' := List.getElem_mem hk'
      rw [List.getElem_map]
      obtain ⟨ws, hws⟩ := c3 _ hr'
      have rl : ri < σ2.length := by rw [p2.1.ok.len]; exact (List.getElem?_eq_some_iff.mp n2).1
      have nk : rs[k] ∉ flatL (L.take i) ++ rs.take k := fun z => by
        rcases List.mem_append.mp z with y | y
        · exact r0 _ hr' y
        · have e1 := List.take_append_drop k rs
          rw [List.drop_eq_getElem_cons hk'] at e1
          have n6 := e1 ▸ nd5.2
          exact (List.nodup_append.mp n6).2.2 _ y _ List.mem_cons_self rfl
      have hv : H2 rs[k] = some (.lst ws) := by rw [p2.1.as _ (mL _ (rm _ hr')) nk]; exact hws
      have p3 := (p2.1.setNo (x := some (.ref rs[k])) n2 hr).poke (o := .lst []) no fr (mL _ (rm _ hr'))
      refine ⟨.ref rs[k], List.getElem?_set_self rl, tyV_list hv, rs[k], ws, rfl, rfl, hv, p3.mono fun a z => ?_, by rw [List.getElem?_set_ne htr]; exact p2.2⟩
      rw [List.take_add_one, List.getElem?_eq_getElem hk']
      rcases List.mem_cons.mp z with y | y
      · rw [y]; exact List.mem_append_right _ (List.mem_append_right _ (List.mem_singleton.mpr rfl))
      · rcases List.mem_append.mp y with y | y
        · exact List.mem_append_left _ y
        · exact List.mem_append_right _ (List.mem_append_left _ y)
    · rw [List.length_map, List.take_length] at p2
      have hv : H2 t = some (.lst (rs.map V.ref)) := by
        rw [p2.1.as t (mL t tm) fun z => ?_]
        · exact c1
        · rcases List.mem_append.mp z with y | y
          · exact t0 y
          · exact nd5.1 y
      have p3 := p2.1.poke (o := .lst (rs.map V.ref ++ [.int 7])) no fr (mL t tm)
      refine ⟨.ref t, p2.2, tyV_list hv, t, rs.map V.ref, .int 7, rfl, rfl, hv, ?_, p3.mono fun a z => ?_⟩
      · rw [List.length_map]
        have c4 : rs.length = U.length := c2
        exact Nat.lt_of_lt_of_le (show rs.length < 1001 by have := sz U hU; omega) (by decide)
      · rw [flat_take hi', eL]
        rcases List.mem_cons.mp z with y | y
        · rw [y]; simp
        · rcases List.mem_append.mp y with y | y
          · exact List.mem_append_left _ y
          · exact List.mem_append_right _ (List.mem_cons_of_mem _ y)
  · rw [List.length_map, List.take_length] at p
    exact fin σ1 H1 p
theorem mp_clear {del : List Addr} {k : Int} {p : Addr} {ws : List V} (s : Mp K hi Γ F0 H0 F Hs as h del σ H) (no : NoOw Γ) (fr : ∀ a ∈ as, F a = none ∧ H0 a = none) (hh : Hs h = some (.lst [vx, .ref b, .ref m, .ref e])) (h1 : h ∈ as) (h2 : h ∉ del) (hk : atI [vx, .ref b, .ref m, .ref e] k = some (.ref p)) (hp : Hs p = some (.lst ws)) (p1 : p ∈ as) (p2 : p ∉ del)
    (fin : ∀ H1, Mp K hi Γ F0 H0 F Hs as h (p :: del) σ H1 → De.nx σ H1) : tDrop (tBM0 K "list" rClear (tOp (rIx K) (tVar hi) (tC (.int k)))) De σ H := by
  have hv : H p = some (.lst ws) := by rw [s.as p p1 p2]; exact hp
  exact ev_ix s.at_ (by rw [s.as h h1 h2]; exact hh) hk _ ⟨tyV_list hv, p, ws, rfl, rfl, hv, fin _ (s.poke no fr p1)⟩
theorem mp_app {del : List Addr} {k : Int} {p : Addr} {ws : List V} (s : Mp K hi Γ F0 H0 F Hs as h del σ H) (no : NoOw Γ) (fr : ∀ a ∈ as, F a = none ∧ H0 a = none) (hh : Hs h = some (.lst [vx, .ref b, .ref m, .ref e])) (h1 : h ∈ as) (h2 : h ∉ del) (hk : atI [vx, .ref b, .ref m, .ref e] k = some (.ref p)) (hp : Hs p = some (.lst ws)) (lw : ws.length ≤ 1000) (p1 : p ∈ as) (p2 : p ∉ del)
    (all : ∀ a ∈ as, ∃ o, Hs a = some o) (fin : ∀ H1, Mp K hi Γ F0 H0 F Hs as h (p :: del) σ H1 → De.nx σ H1) : tDrop (tBM K "list" rAppend (tOp (rIx K) (tVar hi) (tC (.int k))) (tCons (tTup (tCons (tC (.int 1)) (tCons (tC (.int 1)) tNil))) tNil)) De σ H := by
  have hv : H p = some (.lst ws) := by rw [s.as p p1 p2]; exact hp
  refine ev_ix s.at_ (by rw [s.as h h1 h2]; exact hh) hk _ ⟨tyV_list hv, by decide, fun q hq => ?_⟩
  have hne : p ≠ q := fun z => by rw [z, hq] at hv; cases hv
  have s2 : Mp K hi Γ F0 H0 F Hs as h del σ (upd H q (.tup [.int 1, .int 1])) := ⟨s.ok.grow (Gr.newO s.ok.g.s hq), s.at_, fun a ha n => by
    have e1 := s.as a ha n
    obtain ⟨o, ho⟩ := all a ha
    rw [upd_ne fun z => by rw [z] at e1; rw [hq] at e1; rw [← z] at e1; rw [ho] at e1; cases e1]
    exact e1⟩
  exact ⟨p, ws, _, rfl, rfl, by rw [upd_ne hne]; exact hv, Nat.lt_of_le_of_lt lw (by decide), fin _ (s2.poke no fr p1)⟩
/-- the whole -/
theorem sd_scratch {x : Str} {te1 : TE} {tt : TT} {tb ts : TS} {sp : Sp} {SN : List D → D → Prop} {dm : D} {E' : XK} {o : Oc} (hw : Wt K te1 Γ (hT x bs Us es)) (no : NoOw Γ) (hl : hi < Γ.length) (hs : SN [(hT x bs Us es).toD] dm) (ne : mi ≠ hi)
    (ht : Et K tt (((Γ.set hi .no).set mi (.fz dm)).set hi (.fz (hT x bs Us es).toD)) false) (n1 : ((Γ.set hi .no).set mi (.fz dm))[ti]? = some .no) (n2 : ((Γ.set hi .no).set mi (.fz dm))[ri]? = some .no) (h1 : ti ≠ hi) (h2 : ri ≠ hi) (h3 : ri ≠ ti)
    (sz : ∀ U ∈ Us, U.length ≤ 1000) (sb : bs.length ≤ 1000) (rest : Sd K E ts ((Γ.set hi .no).set mi (.fz dm)) o) :
    Sd K E (tSeq (tAsg te1 (gName hi)) (tSeq (tAsg (tCall (spOr sp (spN K SN)) [] E' (tCons (tVar hi) tNil)) (gName mi)) (tSeq (tIfS tt tb tNext)
      (tSeq (tFor (iList K (tOp (rIx K) (tVar hi) (tC (.int 2)))) (gName ti) (tSeq (tFor (iList K (tVar ti)) (gName ri) (tDrop (tBM0 K "list" rClear (tVar ri)))) (tDrop (tBM K "list" rAppend (tVar ti) (tCons (tC (.int 7)) tNil)))))
      (tSeq (tDrop (tBM K "list" rAppend (tOp (rIx K) (tVar hi) (tC (.int 1))) (tCons (tTup (tCons (tC (.int 1)) (tCons (tC (.int 1)) tNil))) tNil)))
      (tSeq (tDrop (tBM0 K "list" rClear (tOp (rIx K) (tVar hi) (tC (.int 2))))) (tSeq (tDrop (tBM0 K "list" rClear (tOp (rIx K) (tVar hi) (tC (.int 3))))) ts))))))) Γ o := fun F0 H0 F H σ De ok fin => by
  have noS : ∀ {Γ : Gam} {i : Nat} {s : Sl}, NoOw Γ → (∀ o, s ≠ .own o) → NoOw (Γ.set i s) := fun {Γ i s} n hs j o e => by
    rcases set_get e with ⟨_, q⟩ | ⟨_, q⟩
    · exact hs o q.symm
    · exact n j o q
  have no1 : NoOw (Γ.set hi .no) := noS no fun o e => nomatch e
  have no2 : NoOw ((Γ.set hi .no).set mi (.fz dm)) := noS no1 fun o e => nomatch e
  refine sk_new ok hw hl fun F1 H1 σ1 v as e1 s1 => ?_
  refine sk_call s1 hs ne fun F2 H2 σ2 e2 s2 => ?_
  refine sk_test s2 no2 ht fun H3 s3 => ?_
  obtain ⟨h, b, m, e, vx, wb, we, L, hk⟩ := hk_of s3.tr
  have nd := s3.tr.nodup
  have fr : ∀ a ∈ as, F2 a = none ∧ H0 a = none := fun a ha => ⟨(s3.tr.free a ha).1, s3.nw a ha⟩
  have all : ∀ a ∈ as, ∃ o, H3 a = some o := fun a ha => by
    obtain ⟨_, ws, q⟩ := s3.tr.free a ha
    exact ⟨_, q⟩
  have ev := hk.qv
  subst ev
  have mp : Mp K hi ((Γ.set hi .no).set mi (.fz dm)) F0 H0 F2 H3 as h [] σ2 H3 := ⟨s3.ok, s3.at_, fun a _ _ => rfl⟩
  have ea := hk.qa
  have ndh := List.nodup_cons.mp (ea ▸ nd)
  have ndb := List.nodup_cons.mp ndh.2
  have ndm := List.nodup_cons.mp ndb.2
  have nde := (List.nodup_append.mp ndm.2).2.2
  have mh : h ∈ as := by rw [ea]; simp
  have mb : b ∈ as := by rw [ea]; simp
  have mm : m ∈ as := by rw [ea]; simp
  have me : e ∈ as := by rw [ea]; simp
  have hb : h ≠ b := fun z => ndh.1 (by rw [z]; simp)
  have hm : h ≠ m := fun z => ndh.1 (by rw [z]; simp)
  have he : h ≠ e := fun z => ndh.1 (by rw [z]; simp)
  have hL : h ∉ flatL L := fun z => ndh.1 (by simp [z])
  have bm : b ≠ m := fun z => ndb.1 (by rw [z]; simp)
  have be : b ≠ e := fun z => ndb.1 (by rw [z]; simp)
  have bL : b ∉ flatL L := fun z => ndb.1 (by simp [z])
  have me' : m ≠ e := fun z => ndm.1 (by rw [z]; simp)
  have mL : m ∉ flatL L := fun z => ndm.1 (by simp [z])
  have eL : e ∉ flatL L := fun z => nde e z e (by simp) rfl
  refine mp_for mp hk nd no2 fr sz n1 n2 h1 h2 h3 fun σ4 H4 m4 => ?_
  refine mp_app m4 no2 fr hk.qh mh hL (k := 1) rfl hk.qb (by rw [hk.lb]; exact sb) mb bL all fun H5 m5 => ?_
  refine mp_clear m5 no2 fr hk.qh mh (fun z => (List.mem_cons.mp z).elim hb hL) (k := 2) rfl hk.qm mm (fun z => (List.mem_cons.mp z).elim (fun y => bm y.symm) mL) fun H6 m6 => ?_
  refine mp_clear m6 no2 fr hk.qh mh (fun z => (List.mem_cons.mp z).elim hm fun z => (List.mem_cons.mp z).elim hb hL) (k := 3) rfl hk.qe me (fun z => (List.mem_cons.mp z).elim (fun y => me' y.symm) fun z => (List.mem_cons.mp z).elim (fun y => be y.symm) eL) fun H7 m7 => ?_
  exact rest F0 H0 F2 H7 σ4 De m7.ok (fin.mono (e1.trans e2))
end
end DL

namespace DL
open PySem PySem.Spec PyProof.Rows L2
/-! ### tuple(list); an item of an owned list; cuts of lists -/
section
variable {K : PySem.W.Frag} {Γ : Gam} {d : D} {ds : List D} {tx : TE}
theorem rc_tupL : RcD K (fun xs H Q => ∃ p ys, xs = [.ref p] ∧ ((SqL K H p ys ∧ ∀ l, H l = none → Q (.ref l) (upd H l (.tup ys))) ∨ (SqT K H p ys ∧ Q (.ref p) H))) [.lst ds] (.tup ds) := fun F H vs s r Q q => by
  cases r with
  | cons r rr =>
    cases rr
    cases r with
    | @lst a xs _ ha ra =>
      refine ⟨a, xs, rfl, .inl ⟨.inl (.inl (s _ _ ha)), fun l hl => ?_⟩⟩
      have g := Gr.new (o := .tup xs) s hl
      exact q _ _ _ g (.tup (.inl (.inl upd_same)) (ra.mono g.f))
theorem ed_ixO (i : Nat) {k : Int} (hi : Γ[i]? = some (.ow ds)) (hx : Ed K tx Γ (.int k)) (hk : atI ds k = some d) : Ed K (tOp (rIx K) (tVar i) tx) Γ d := fun F0 H0 F H σ ok Q q => by
  obtain ⟨p, ho, a, b, c, e, r, _⟩ := ok.ow i (.lst ds) hi
  obtain ⟨vs, rfl, r'⟩ : ∃ vs, ho = .lst vs ∧ RpA K F vs ds := by
    cases r with
    | lst r => exact ⟨_, rfl, r⟩
  refine ⟨.ref p, a, ?_⟩
  refine hx F0 H0 F H σ ok _ fun w F2 H2 g2 r2 => ?_
  cases r2
  obtain ⟨c2, b2⟩ := g2.out c b
  obtain ⟨z, hz, rz⟩ := atI_rp (r'.mono g2.f) hk
  exact .inl ⟨p, vs, k, z, rfl, rfl, .inl (.inl b2), hz, q _ F2 H2 g2 rz⟩
end
theorem cutD_to (ds : List D) (k : Nat) : cutD ds none (some (k : Int)) = ds.take k := by
  unfold cutD
  rw [HT.sIx_none, HT.sIx_nat, List.drop_zero, Nat.sub_zero]
  rcases Nat.le_total k ds.length with h | h
  · rw [Nat.min_eq_left h]
  · rw [Nat.min_eq_right h, List.take_of_length_le (Nat.le_refl _), List.take_of_length_le h]
theorem cutD_from (ds : List D) (k : Nat) : cutD ds (some (k : Int)) none = ds.drop k := by
  unfold cutD
  rw [HT.sIx_none, HT.sIx_nat]
  rcases Nat.le_total k ds.length with h | h
  · rw [Nat.min_eq_left h, List.take_of_length_le (by rw [List.length_drop]; exact Nat.le_refl _)]
  · rw [Nat.min_eq_right h, Nat.sub_self, List.take_zero, List.drop_eq_nil_of_le h]
end DL

set_option Elab.async false
set_option linter.all false
set_option maxRecDepth 100000
set_option maxHeartbeats 4000000
open PySem PySem.Spec PyProof.Rows L2 DL
local macro_rules | `(tactic| wtm_at "ed") => `(tactic| first
  | with_reducible exact ed_int _
  | with_reducible exact ed_bl _
  | with_reducible exact ed_dct
  | with_reducible exact ed_non
  | with_reducible exact ed_str _
  | with_reducible exact ed_ty _
  | with_reducible exact ed_adr _
  | ((with_reducible apply ed_fz); exact rfl)
  | with_reducible apply ed_op
  | with_reducible apply ed_un
  | with_reducible apply ed_cb
  | with_reducible apply ed_call
  | with_reducible apply ed_callX
  | with_reducible apply ed_tup
  | with_reducible apply ed_lst
  | with_reducible apply ed_sl
  | with_reducible exact eo_none
  | with_reducible apply eo_some
  | with_reducible exact ea_nil
  | with_reducible apply ea_cons
  | with_reducible apply et_test
  | with_reducible apply et_B
  | with_reducible apply et_not
  | with_reducible exact et_yes
  | with_reducible apply ed_notV
  | ((with_reducible show autoParam _ _); exact Nat.le_of_ble_eq_true rfl)
  | wtm_at "rr")
local macro_rules | `(tactic| wtm_at "rr") => `(tactic| first
  | with_reducible exact r2_addI
  | with_reducible exact r2_subI
  | with_reducible exact r2_ltI
  | with_reducible exact r2_leI
  | with_reducible exact r2_gt
  | with_reducible exact r2_ge
  | with_reducible exact r2_eqI
  | with_reducible exact r2_neI
  | with_reducible exact r2_isB
  | with_reducible exact r2_notB
  | with_reducible exact r1_neg
  | with_reducible exact rc_abs
  | with_reducible exact rc_max2
  | with_reducible exact rc_lenL
  | with_reducible exact rc_lenT
  | with_reducible exact rc_lenP
  | with_reducible exact rc_intB
  | with_reducible exact rs_lst
  | with_reducible exact rs_scr
  | ((with_reducible apply r2_mod); first | decide | omega | skip)
  | ((with_reducible apply r2_ixT); exact rfl)
  | ((with_reducible apply r2_ixL); first | exact rfl | skip)
  | with_reducible apply r2_mulI
  | ((with_reducible apply rc_isi) <;> first | exact rfl | decide +kernel | skip))
namespace Kx
def topS (i : Nat) : Stmt := PySem.Challenge.pw_weighwords_k05_machines_refused.main.body.getD i (.Pass ⟨0, 0, 0, 0⟩)

abbrev s_is_whole : Stmt := topS 11
theorem sc_is_whole : FnScope ["thing"] ["thing"] (defScope s_is_whole) := ⟨rfl, rfl, rfl, by decide +kernel, rfl, by decide +kernel, by decide +kernel⟩
abbrev s_divisor : Stmt := topS 12
theorem sc_divisor : FnScope ["one", "other", "rest"] ["one", "other"] (defScope s_divisor) := ⟨rfl, rfl, rfl, by decide +kernel, rfl, by decide +kernel, by decide +kernel⟩
abbrev s_is_share : Stmt := topS 13
theorem sc_is_share : FnScope ["thing"] ["thing"] (defScope s_is_share) := ⟨rfl, rfl, rfl, by decide +kernel, rfl, by decide +kernel, by decide +kernel⟩
abbrev s_share : Stmt := topS 14
theorem sc_share : FnScope ["top", "bottom", "common"] ["top", "bottom"] (defScope s_share) := ⟨rfl, rfl, rfl, by decide +kernel, rfl, by decide +kernel, by decide +kernel⟩
abbrev s_plus : Stmt := topS 15
theorem sc_plus : FnScope ["one", "other"] ["one", "other"] (defScope s_plus) := ⟨rfl, rfl, rfl, by decide +kernel, rfl, by decide +kernel, by decide +kernel⟩
abbrev s_times : Stmt := topS 16
theorem sc_times : FnScope ["one", "other"] ["one", "other"] (defScope s_times) := ⟨rfl, rfl, rfl, by decide +kernel, rfl, by decide +kernel, by decide +kernel⟩
abbrev s_weighed : Stmt := topS 17
theorem sc_weighed : FnScope ["row", "other", "found", "one", "two"] ["row", "other"] (defScope s_weighed) := ⟨rfl, rfl, rfl, by decide +kernel, rfl, by decide +kernel, by decide +kernel⟩
abbrev s_is_row : Stmt := topS 19
theorem sc_is_row : FnScope ["thing", "size", "part"] ["thing", "size"] (defScope s_is_row) := ⟨rfl, rfl, rfl, by decide +kernel, rfl, by decide +kernel, by decide +kernel⟩
abbrev s_are_signs : Stmt := topS 23
theorem sc_are_signs : FnScope ["thing", "before", "sign"] ["thing"] (defScope s_are_signs) := ⟨rfl, rfl, rfl, by decide +kernel, rfl, by decide +kernel, by decide +kernel⟩
abbrev s_is_table : Stmt := topS 24
theorem sc_is_table : FnScope ["thing", "many", "row"] ["thing", "many"] (defScope s_is_table) := ⟨rfl, rfl, rfl, by decide +kernel, rfl, by decide +kernel, by decide +kernel⟩
abbrev s_need_machine : Stmt := topS 25
theorem sc_need_machine : FnScope ["signs", "begins", "moves", "ends", "many", "one"] ["signs", "begins", "moves", "ends"] (defScope s_need_machine) := ⟨rfl, rfl, rfl, by decide +kernel, rfl, by decide +kernel, by decide +kernel⟩
abbrev s_MachineD_initD : Stmt := inClass (topS 26) 0
theorem sc_MachineD_initD : FnScope ["self", "signs", "begins", "moves", "ends", "table", "row"] ["self", "signs", "begins", "moves", "ends"] (defScope s_MachineD_initD) := ⟨rfl, rfl, rfl, by decide +kernel, rfl, by decide +kernel, by decide +kernel⟩
abbrev s_rooms : Stmt := topS 27
theorem sc_rooms : FnScope ["machine"] ["machine"] (defScope s_rooms) := ⟨rfl, rfl, rfl, by decide +kernel, rfl, by decide +kernel, by decide +kernel⟩
abbrev s_led : Stmt := topS 28
theorem sc_led : FnScope ["row", "table", "place", "line"] ["row", "table"] (defScope s_led) := ⟨rfl, rfl, rfl, by decide +kernel, rfl, by decide +kernel, by decide +kernel⟩
abbrev s_row_of : Stmt := topS 29
theorem sc_row_of : FnScope ["machine", "word", "sign", "row"] ["machine", "word"] (defScope s_row_of) := ⟨rfl, rfl, rfl, by decide +kernel, rfl, by decide +kernel, by decide +kernel⟩
abbrev s_weight : Stmt := topS 30
theorem sc_weight : FnScope ["machine", "word"] ["machine", "word"] (defScope s_weight) := ⟨rfl, rfl, rfl, by decide +kernel, rfl, by decide +kernel, by decide +kernel⟩
abbrev s_law_cell_at : Stmt := topS 32
theorem sc_law_cell_at : FnScope ["_law_script", "_law_k"] ["_law_script", "_law_k"] (defScope s_law_cell_at) := ⟨rfl, rfl, rfl, by decide +kernel, rfl, by decide +kernel, by decide +kernel⟩
abbrev s_law_common : Stmt := topS 33
theorem sc_law_common : FnScope ["_law_one", "_law_other"] ["_law_one", "_law_other"] (defScope s_law_common) := ⟨rfl, rfl, rfl, by decide +kernel, rfl, by decide +kernel, by decide +kernel⟩
abbrev s_law_share : Stmt := topS 34
theorem sc_law_share : FnScope ["_law_top_here", "_law_bottom", "_law_common_here"] ["_law_top_here", "_law_bottom"] (defScope s_law_share) := ⟨rfl, rfl, rfl, by decide +kernel, rfl, by decide +kernel, by decide +kernel⟩
abbrev s_law_word_of : Stmt := topS 35
theorem sc_law_word_of : FnScope ["_law_e", "_law_found"] ["_law_e"] (defScope s_law_word_of) := ⟨rfl, rfl, rfl, by decide +kernel, rfl, by decide +kernel, by decide +kernel⟩
abbrev s_law_drawn : Stmt := topS 36
theorem sc_law_drawn : FnScope ["_law_script", "_law_k"] ["_law_script", "_law_k"] (defScope s_law_drawn) := ⟨rfl, rfl, rfl, by decide +kernel, rfl, by decide +kernel, by decide +kernel⟩
abbrev s_law_top : Stmt := topS 37
theorem sc_law_top : FnScope ["_law_cell"] ["_law_cell"] (defScope s_law_top) := ⟨rfl, rfl, rfl, by decide +kernel, rfl, by decide +kernel, by decide +kernel⟩
abbrev s_law_scales : Stmt := topS 38
theorem sc_law_scales : FnScope ["_law_cell"] ["_law_cell"] (defScope s_law_scales) := ⟨rfl, rfl, rfl, by decide +kernel, rfl, by decide +kernel, by decide +kernel⟩
abbrev s_law_signs : Stmt := topS 39
theorem sc_law_signs : FnScope ["_law_cell", "_law_letters", "_law_first", "_law_step", "_law_k"] ["_law_cell"] (defScope s_law_signs) := ⟨rfl, rfl, rfl, by decide +kernel, rfl, by decide +kernel, by decide +kernel⟩
abbrev s_law_tops : Stmt := topS 40
theorem sc_law_tops : FnScope ["_law_script", "_law_first", "_law_signs_here", "_law_many", "_law_begins", "_law_ends", "_law_moves", "_law_place", "_law_at", "_law_k", "_law_i", "_law_j"] ["_law_script", "_law_first", "_law_signs_here", "_law_many"] (defScope s_law_tops) := ⟨rfl, rfl, rfl, by decide +kernel, rfl, by decide +kernel, by decide +kernel⟩
abbrev s_law_row : Stmt := topS 41
theorem sc_law_row : FnScope ["_law_tops_here", "_law_scale", "_law_top_here"] ["_law_tops_here", "_law_scale"] (defScope s_law_row) := ⟨rfl, rfl, rfl, by decide +kernel, rfl, by decide +kernel, by decide +kernel⟩
abbrev s_law_parts : Stmt := topS 42
theorem sc_law_parts : FnScope ["_law_signs_here", "_law_tops_here", "_law_scales_here", "_law_moves", "_law_table", "_law_row_here"] ["_law_signs_here", "_law_tops_here", "_law_scales_here"] (defScope s_law_parts) := ⟨rfl, rfl, rfl, by decide +kernel, rfl, by decide +kernel, by decide +kernel⟩
abbrev s_law_no_signs : Stmt := topS 43
theorem sc_law_no_signs : FnScope ["_law_cell", "_law_signs_here", "_law_some", "_law_others", "_law_at"] ["_law_cell", "_law_signs_here"] (defScope s_law_no_signs) := ⟨rfl, rfl, rfl, by decide +kernel, rfl, by decide +kernel, by decide +kernel⟩
abbrev s_law_no_row : Stmt := topS 44
theorem sc_law_no_row : FnScope ["_law_cell", "_law_row_here", "_law_bad", "_law_at", "_law_some"] ["_law_cell", "_law_row_here"] (defScope s_law_no_row) := ⟨rfl, rfl, rfl, by decide +kernel, rfl, by decide +kernel, by decide +kernel⟩
abbrev s_law_spoilt : Stmt := topS 45
theorem sc_law_spoilt : FnScope ["_law_parts_here", "_law_cell", "_law_signs_here", "_law_begins", "_law_moves", "_law_ends", "_law_way", "_law_more", "_law_wrong", "_law_blank", "_law_some", "_law_at", "_law_line", "_law_table", "_law_room"] ["_law_parts_here", "_law_cell"] (defScope s_law_spoilt) := ⟨rfl, rfl, rfl, by decide +kernel, rfl, by decide +kernel, by decide +kernel⟩
abbrev s_law_told : Stmt := topS 46
theorem sc_law_told : FnScope ["_law_parts_here", "_law_e"] ["_law_parts_here"] (defScope s_law_told) := ⟨rfl, rfl, rfl, by decide +kernel, rfl, by decide +kernel, by decide +kernel⟩
abbrev s_law_wide : Stmt := topS 47
theorem sc_law_wide : FnScope ["_law_many", "_law_sign", "_law_row_here", "_law_one", "_law_k"] ["_law_many", "_law_sign"] (defScope s_law_wide) := ⟨rfl, rfl, rfl, by decide +kernel, rfl, by decide +kernel, by decide +kernel⟩
abbrev s_law_word_refused : Stmt := topS 48
theorem sc_law_word_refused : FnScope ["_law_way", "_law_machine", "_law_word", "_law_e"] ["_law_way", "_law_machine", "_law_word"] (defScope s_law_word_refused) := ⟨rfl, rfl, rfl, by decide +kernel, rfl, by decide +kernel, by decide +kernel⟩
abbrev s_law_words_refused : Stmt := topS 49
theorem sc_law_words_refused : FnScope ["_law_machine", "_law_signs_here", "_law_cell", "_law_others", "_law_word", "_law_at", "_law_wrong", "_law_thing", "_law_way", "_law_sign"] ["_law_machine", "_law_signs_here", "_law_cell"] (defScope s_law_words_refused) := ⟨rfl, rfl, rfl, by decide +kernel, rfl, by decide +kernel, by decide +kernel⟩
abbrev s_law : Stmt := topS 50
theorem sc_law : FnScope ["_law_script", "_law_cell", "_law_signs_here", "_law_many", "_law_parts_here", "_law_spoilt_here", "_law_wide_here", "_law_told_here", "_law_table", "_law_row_here", "_law_handed", "_law_machine"] ["_law_script"] (defScope s_law) := ⟨rfl, rfl, rfl, by decide +kernel, rfl, by decide +kernel, by decide +kernel⟩

structure Tx (K : PySem.W.Frag) (mg : Str → Option Value) (a_WeighError a_Nought a_NoText a_NoRow a_NoMachine a_NoWord a_OtherSigns a_TooMany a_Machine a_NONE : Addr) : Prop where
  d_is_whole : Df K mg "is_whole" ["thing"] s_is_whole
  d_divisor : Df K mg "divisor" ["one", "other"] s_divisor
  d_is_share : Df K mg "is_share" ["thing"] s_is_share
  d_share : Df K mg "share" ["top", "bottom"] s_share
  d_plus : Df K mg "plus" ["one", "other"] s_plus
  d_times : Df K mg "times" ["one", "other"] s_times
  d_weighed : Df K mg "weighed" ["row", "other"] s_weighed
  d_is_row : Df K mg "is_row" ["thing", "size"] s_is_row
  d_are_signs : Df K mg "are_signs" ["thing"] s_are_signs
  d_is_table : Df K mg "is_table" ["thing", "many"] s_is_table
  d_need_machine : Df K mg "need_machine" ["signs", "begins", "moves", "ends"] s_need_machine
  d_rooms : Df K mg "rooms" ["machine"] s_rooms
  d_led : Df K mg "led" ["row", "table"] s_led
  d_row_of : Df K mg "row_of" ["machine", "word"] s_row_of
  d_weight : Df K mg "weight" ["machine", "word"] s_weight
  d__law_cell_at : Df K mg "_law_cell_at" ["_law_script", "_law_k"] s_law_cell_at
  d__law_common : Df K mg "_law_common" ["_law_one", "_law_other"] s_law_common
  d__law_share : Df K mg "_law_share" ["_law_top_here", "_law_bottom"] s_law_share
  d__law_word_of : Df K mg "_law_word_of" ["_law_e"] s_law_word_of
  d__law_drawn : Df K mg "_law_drawn" ["_law_script", "_law_k"] s_law_drawn
  d__law_top : Df K mg "_law_top" ["_law_cell"] s_law_top
  d__law_scales : Df K mg "_law_scales" ["_law_cell"] s_law_scales
  d__law_signs : Df K mg "_law_signs" ["_law_cell"] s_law_signs
  d__law_tops : Df K mg "_law_tops" ["_law_script", "_law_first", "_law_signs_here", "_law_many"] s_law_tops
  d__law_row : Df K mg "_law_row" ["_law_tops_here", "_law_scale"] s_law_row
  d__law_parts : Df K mg "_law_parts" ["_law_signs_here", "_law_tops_here", "_law_scales_here"] s_law_parts
  d__law_no_signs : Df K mg "_law_no_signs" ["_law_cell", "_law_signs_here"] s_law_no_signs
  d__law_no_row : Df K mg "_law_no_row" ["_law_cell", "_law_row_here"] s_law_no_row
  d__law_spoilt : Df K mg "_law_spoilt" ["_law_parts_here", "_law_cell"] s_law_spoilt
  d__law_told : Df K mg "_law_told" ["_law_parts_here"] s_law_told
  d__law_wide : Df K mg "_law_wide" ["_law_many", "_law_sign"] s_law_wide
  d__law_word_refused : Df K mg "_law_word_refused" ["_law_way", "_law_machine", "_law_word"] s_law_word_refused
  d__law_words_refused : Df K mg "_law_words_refused" ["_law_machine", "_law_signs_here", "_law_cell"] s_law_words_refused
  d_law : Df K mg "law" ["_law_script"] s_law
  n_isinstance : mg "isinstance" = none
  n_int : mg "int" = none
  n_bool : mg "bool" = none
  n_tuple : mg "tuple" = none
  n_len : mg "len" = none
  n_abs : mg "abs" = none
  n_zip : mg "zip" = none
  n_list : mg "list" = none
  n_all : mg "all" = none
  n_str : mg "str" = none
  n_range : mg "range" = none
  n_ValueError : mg "ValueError" = none
  m_WeighError : mg "WeighError" = some (.ref a_WeighError)
  m_Nought : mg "Nought" = some (.ref a_Nought)
  m_NoText : mg "NoText" = some (.ref a_NoText)
  m_NoRow : mg "NoRow" = some (.ref a_NoRow)
  m_NoMachine : mg "NoMachine" = some (.ref a_NoMachine)
  m_NoWord : mg "NoWord" = some (.ref a_NoWord)
  m_OtherSigns : mg "OtherSigns" = some (.ref a_OtherSigns)
  m_TooMany : mg "TooMany" = some (.ref a_TooMany)
  x_WeighError : PySem.W.excIn K a_WeighError [.type "ValueError", .type "Exception", .type "BaseException", .type "object"] "ValueError.__new__" = true
  k_WeighError : PySem.W.keepIn K (.ref a_WeighError) = true
  b_WeighError : PySem.W.subIn K (.ref a_WeighError) (.type "BaseException") = some true
  t_WeighError : PySem.W.typeIn K (.ref a_WeighError) = some (.type "type")
  x_Nought : PySem.W.excIn K a_Nought [.type "ValueError", .type "Exception", .type "BaseException", .type "object"] "ValueError.__new__" = true
  k_Nought : PySem.W.keepIn K (.ref a_Nought) = true
  b_Nought : PySem.W.subIn K (.ref a_Nought) (.type "BaseException") = some true
  t_Nought : PySem.W.typeIn K (.ref a_Nought) = some (.type "type")
  x_NoText : PySem.W.excIn K a_NoText [.type "ValueError", .type "Exception", .type "BaseException", .type "object"] "ValueError.__new__" = true
  k_NoText : PySem.W.keepIn K (.ref a_NoText) = true
  b_NoText : PySem.W.subIn K (.ref a_NoText) (.type "BaseException") = some true
  t_NoText : PySem.W.typeIn K (.ref a_NoText) = some (.type "type")
  x_NoRow : PySem.W.excIn K a_NoRow [.type "ValueError", .type "Exception", .type "BaseException", .type "object"] "ValueError.__new__" = true
  k_NoRow : PySem.W.keepIn K (.ref a_NoRow) = true
  b_NoRow : PySem.W.subIn K (.ref a_NoRow) (.type "BaseException") = some true
  t_NoRow : PySem.W.typeIn K (.ref a_NoRow) = some (.type "type")
  x_NoMachine : PySem.W.excIn K a_NoMachine [.type "ValueError", .type "Exception", .type "BaseException", .type "object"] "ValueError.__new__" = true
  k_NoMachine : PySem.W.keepIn K (.ref a_NoMachine) = true
  b_NoMachine : PySem.W.subIn K (.ref a_NoMachine) (.type "BaseException") = some true
  t_NoMachine : PySem.W.typeIn K (.ref a_NoMachine) = some (.type "type")
  x_NoWord : PySem.W.excIn K a_NoWord [.type "ValueError", .type "Exception", .type "BaseException", .type "object"] "ValueError.__new__" = true
  k_NoWord : PySem.W.keepIn K (.ref a_NoWord) = true
  b_NoWord : PySem.W.subIn K (.ref a_NoWord) (.type "BaseException") = some true
  t_NoWord : PySem.W.typeIn K (.ref a_NoWord) = some (.type "type")
  x_OtherSigns : PySem.W.excIn K a_OtherSigns [.type "ValueError", .type "Exception", .type "BaseException", .type "object"] "ValueError.__new__" = true
  k_OtherSigns : PySem.W.keepIn K (.ref a_OtherSigns) = true
  b_OtherSigns : PySem.W.subIn K (.ref a_OtherSigns) (.type "BaseException") = some true
  t_OtherSigns : PySem.W.typeIn K (.ref a_OtherSigns) = some (.type "type")
  x_TooMany : PySem.W.excIn K a_TooMany [.type "ValueError", .type "Exception", .type "BaseException", .type "object"] "ValueError.__new__" = true
  k_TooMany : PySem.W.keepIn K (.ref a_TooMany) = true
  b_TooMany : PySem.W.subIn K (.ref a_TooMany) (.type "BaseException") = some true
  t_TooMany : PySem.W.typeIn K (.ref a_TooMany) = some (.type "type")
  em_NoMachine : PySem.W.exmOne K (.ref a_NoMachine) (.ref a_WeighError) = some true
  ge_NoMachine : ExcC K a_NoMachine
  is_NoMachine_Nought : PySem.W.kitOne K (.ref a_NoMachine) (.ref a_Nought) = some false
  is_NoMachine_NoText : PySem.W.kitOne K (.ref a_NoMachine) (.ref a_NoText) = some false
  is_NoMachine_NoRow : PySem.W.kitOne K (.ref a_NoMachine) (.ref a_NoRow) = some false
  is_NoMachine_NoMachine : PySem.W.kitOne K (.ref a_NoMachine) (.ref a_NoMachine) = some true
  is_NoMachine_NoWord : PySem.W.kitOne K (.ref a_NoMachine) (.ref a_NoWord) = some false
  is_NoMachine_OtherSigns : PySem.W.kitOne K (.ref a_NoMachine) (.ref a_OtherSigns) = some false
  is_NoMachine_TooMany : PySem.W.kitOne K (.ref a_NoMachine) (.ref a_TooMany) = some false
  iv_NoMachine : PySem.W.kitOne K (.ref a_NoMachine) (.type "ValueError") = some true
  em_TooMany : PySem.W.exmOne K (.ref a_TooMany) (.ref a_WeighError) = some true
  ge_TooMany : ExcC K a_TooMany
  is_TooMany_Nought : PySem.W.kitOne K (.ref a_TooMany) (.ref a_Nought) = some false
  is_TooMany_NoText : PySem.W.kitOne K (.ref a_TooMany) (.ref a_NoText) = some false
  is_TooMany_NoRow : PySem.W.kitOne K (.ref a_TooMany) (.ref a_NoRow) = some false
  is_TooMany_NoMachine : PySem.W.kitOne K (.ref a_TooMany) (.ref a_NoMachine) = some false
  is_TooMany_NoWord : PySem.W.kitOne K (.ref a_TooMany) (.ref a_NoWord) = some false
  is_TooMany_OtherSigns : PySem.W.kitOne K (.ref a_TooMany) (.ref a_OtherSigns) = some false
  is_TooMany_TooMany : PySem.W.kitOne K (.ref a_TooMany) (.ref a_TooMany) = some true
  iv_TooMany : PySem.W.kitOne K (.ref a_TooMany) (.type "ValueError") = some true
  em_NoWord : PySem.W.exmOne K (.ref a_NoWord) (.ref a_WeighError) = some true
  ge_NoWord : ExcC K a_NoWord
  is_NoWord_Nought : PySem.W.kitOne K (.ref a_NoWord) (.ref a_Nought) = some false
  is_NoWord_NoText : PySem.W.kitOne K (.ref a_NoWord) (.ref a_NoText) = some false
  is_NoWord_NoRow : PySem.W.kitOne K (.ref a_NoWord) (.ref a_NoRow) = some false
  is_NoWord_NoMachine : PySem.W.kitOne K (.ref a_NoWord) (.ref a_NoMachine) = some false
  is_NoWord_NoWord : PySem.W.kitOne K (.ref a_NoWord) (.ref a_NoWord) = some true
  is_NoWord_OtherSigns : PySem.W.kitOne K (.ref a_NoWord) (.ref a_OtherSigns) = some false
  is_NoWord_TooMany : PySem.W.kitOne K (.ref a_NoWord) (.ref a_TooMany) = some false
  iv_NoWord : PySem.W.kitOne K (.ref a_NoWord) (.type "ValueError") = some true
  m_Machine : mg "Machine" = some (.ref a_Machine)
  cl_Machine : Cls K a_Machine
  ti_Machine : Tin K a_Machine
  na_Machine_signs : NoAttr K a_Machine "signs"
  na_Machine_begins : NoAttr K a_Machine "begins"
  na_Machine_moves : NoAttr K a_Machine "moves"
  na_Machine_ends : NoAttr K a_Machine "ends"
  i_Machine : Di K a_Machine "__init__" "Machine.__init__" ["self", "signs", "begins", "moves", "ends"] s_MachineD_initD
  m_NONE : mg "NONE" = some (.ref a_NONE)
  q_NONE : ∀ H, SqT K H a_NONE [.int 0, .int 1]
  m_MOST_SIGNS : ∃ t, mg "MOST_SIGNS" = some (.int 6 t)
  m_MOST_ROOMS : ∃ t, mg "MOST_ROOMS" = some (.int 12 t)
section
variable {P : Program} {w : World} {K : PySem.W.Frag} {mg : Str → Option Value} {base : Heap} {a_WeighError a_Nought a_NoText a_NoRow a_NoMachine a_NoWord a_OtherSigns a_TooMany a_Machine a_NONE : Addr}
/-! ### shares: divisor, is_whole, is_share, share -/
theorem sd_whileE {K : PySem.W.Frag} {E : XK} {t : TT} {ts : TS} {Γ : Gam} {o : Oc} (h : ∃ n, LoopW K E t ts n Γ o) : Sd K E (tWhile t ts) Γ o := by
  obtain ⟨n, h⟩ := h
  exact sd_while h
def Sdiv : List D → D → Prop := fun ds d => ∃ a b : Nat, ds = [.int a, .int b] ∧ d = .int (Nat.gcd a b : Nat)
theorem ok_divisor (T : Tx K mg a_WeighError a_Nought a_NoText a_NoRow a_NoMachine a_NoWord a_OtherSigns a_TooMany a_Machine a_NONE) : Cl P w K mg base CX0 1 "divisor" (spR K Sdiv) := by
  refine clR T.d_divisor sc_divisor (fun ds d h => by obtain ⟨a, b, rfl, _⟩ := h; rfl) fun f cdv A outer s H E hr => ?_
  refine ⟨_, (pss_cons (ps_while PassesOwn.never (pt_cmpR op_gt (pv 1) pe_int (nomark _))
  (pss_cons (ps_set (i := 2) sc_divisor.nd rfl (by first | exact Or.inl rfl | exact Or.inr rfl) (pe_op op_mod (pv 0) (pv 1)))
  (pss_cons (ps_set (i := 0) sc_divisor.nd rfl (by first | exact Or.inl rfl | exact Or.inr rfl) (pv 1))
  (pss_one (ps_set (i := 1) sc_divisor.nd rfl (by first | exact Or.inl rfl | exact Or.inr rfl) (pv 2))))))
  (pss_one (ps_ret (pv 0)))), fun ds d h => ?_⟩
  obtain ⟨a, b, rfl, rfl⟩ := h
  refine sd_seq (Γ1 := [.fz (.int (Nat.gcd a b : Nat)), .fz (.int 0), .no]) (sd_whileE ?_) (sd_ret (ed_fz 0 rfl))
  show ∃ n, LoopW K E0 _ _ n [.fz (.int a), .fz (.int b), .no] _
  induction b using Nat.strongRecOn generalizing a with
  | _ b ih =>
    have test : Et K (tTest (tOp (rI0 fun i j => .bl (decide (j < i))) (tVar 1) (tC (.int 0)))) [.fz (.int a), .fz (.int b), .no] (decide ((0 : Int) < b)) := et_test (ed_op (ed_fz 1 rfl) (ed_int 0) r2_gt)
    by_cases hb : b = 0
    · subst hb
      rw [Nat.gcd_zero_right]
      exact ⟨0, .done test⟩
    · obtain ⟨n, hn⟩ := ih (a % b) (Nat.mod_lt _ (Nat.pos_of_ne_zero hb)) b
      rw [show Nat.gcd b (a % b) = Nat.gcd a b by rw [Nat.gcd_comm b, ← Nat.gcd_rec, Nat.gcd_comm]] at hn
      refine ⟨n + 1, .step (et_is test (decide_eq_true (by omega))) ?_ hn⟩
      refine Sd.lpLe (Γ1 := [.fz (.int b), .fz (.int ((a : Int) % b)), .fz (.int ((a : Int) % b))]) (Sd.toLp ?_) ?_
      · exact sd_seq (sd_set 2 (ed_op (ed_fz 0 rfl) (ed_fz 1 rfl) (r2_mod (by omega)))) (sd_seq (sd_set 0 (ed_fz 1 rfl)) (sd_set 1 (ed_fz 2 rfl)))
      · exact .cons (.inr rfl) (.cons (.inr rfl) (.cons (.inl rfl) .nil))
def isInt : D → Bool
  | .int _ => true
  | _ => false
def Swh : List D → D → Prop := fun ds d => ∃ x T, ds = [x] ∧ tyD x = some T ∧ d = .bl (isInt x)
theorem isi_kind (x : D) {T : String} (h : tyD x = some T) : kitB T "int" = some (isInt x || T == "bool") ∧ kitB T "bool" = some (T == "bool") ∧ kitB T "tuple" = some (T == "tuple") ∧ isInt x = (T == "int") := by
  cases x <;> first | (cases h; done) | (cases h; refine ⟨?_, ?_, ?_, ?_⟩ <;> first | decide +kernel | (simp only [isInt]; decide +kernel))
def isSh : D → Bool
  | .tup [.int a, .int b] => decide (0 < b) && decide (Nat.gcd a.natAbs b.toNat = 1)
  | _ => false
def Sis : List D → D → Prop := fun ds d => ∃ x, ds = [x] ∧ (∃ T, tyD x = some T) ∧ (∀ a b, x = .tup [a, b] → (∃ T, tyD a = some T) ∧ ∃ T, tyD b = some T) ∧ d = .bl (isSh x)
/-- the share of two whole numbers, the bottom not nought -/
def cmn (t b : Int) : Int := if b < 0 then 0 - (Nat.gcd t.natAbs b.natAbs : Nat) else (Nat.gcd t.natAbs b.natAbs : Nat)
def mkS (t b : Int) : Int × Int := (t.fdiv (cmn t b), b.fdiv (cmn t b))
abbrev sh (p : Int × Int) : D := .tup [.int p.1, .int p.2]
theorem cmn_ne {t b : Int} (hb : b ≠ 0) : cmn t b ≠ 0 := by
  have h : 0 < Nat.gcd t.natAbs b.natAbs := Nat.gcd_pos_of_pos_right _ (by omega)
  unfold cmn
  split <;> omega
theorem cmn_fd {t b x : Int} (hb : b ≠ 0) (h : b.natAbs.log2 < 9000) : CFd x (cmn t b) := by
  refine ⟨cmn_ne hb, ?_⟩
  have e : (cmn t b).natAbs = Nat.gcd t.natAbs b.natAbs := by unfold cmn; split <;> omega
  rw [e]
  have le : Nat.gcd t.natAbs b.natAbs ≤ b.natAbs := Nat.gcd_le_right _ (by omega)
  have hp : 0 < Nat.gcd t.natAbs b.natAbs := Nat.gcd_pos_of_pos_right _ (by omega)
  have h2 := (Nat.log2_lt (by omega)).mp h
  exact (Nat.log2_lt (by omega)).mpr (Nat.lt_of_le_of_lt le h2)
def Ssh : List D → D → Prop := fun ds d => ∃ t b : Int, ds = [.int t, .int b] ∧ b ≠ 0 ∧ b.natAbs.log2 < 9000 ∧ d = sh (mkS t b)
def Tsh (C : Addr) : List D → Addr → Prop := fun ds c => ∃ t : Int, ds = [.int t, .int 0] ∧ c = C
theorem ok_share (T : Tx K mg a_WeighError a_Nought a_NoText a_NoRow a_NoMachine a_NoWord a_OtherSigns a_TooMany a_Machine a_NONE) (c_divisor : Cl P w K mg base CX0 1 "divisor" (spR K Sdiv)) : Cl P w K mg base (L2.CX P w) 2 "share" (spX K Ssh (Tsh a_Nought)) := by
  refine clX T.d_share sc_share (fun ds d h => by obtain ⟨a, b, rfl, _⟩ := h; rfl) (fun ds d h => by obtain ⟨a, rfl, _⟩ := h; rfl) fun f cdv A outer s H E hr => ?_
  refine ⟨_, (pss_cons (ps_if (pt_cmpR (op_eqD hr.units) (pv 1) pe_int (nomark _))
  (pss_one (ps_raise rfl (takes_of rfl rfl rfl rfl) (pmk_own PySem.F.excBase_ValueError T.x_Nought T.m_Nought T.k_Nought (raises_own T.b_Nought T.t_Nought) rfl)))
  pss_nil)
  (pss_cons (ps_set (i := 2) sc_share.nd rfl (by first | exact Or.inl rfl | exact Or.inr rfl) (pcl c_divisor hr (by decide) rfl (pa_cons (pe_callB call_abs (by rfl) T.n_abs bt_abs (pa_cons (pv 0) pa_nil)) (pa_cons (pe_callB call_abs (by rfl) T.n_abs bt_abs (pa_cons (pv 1) pa_nil)) pa_nil))))
  (pss_cons (ps_if (pt_cmpR opLt (pv 1) pe_int (nomark _))
  (pss_one (ps_set (i := 2) sc_share.nd rfl (by first | exact Or.inl rfl | exact Or.inr rfl) (pe_op op_sub pe_int (pv 2))))
  pss_nil)
  (pss_one (ps_ret (pe_tup (pa_cons (pe_op opFd (pv 0) (pv 2)) (pa_cons (pe_op opFd (pv 1) (pv 2)) pa_nil)))))))), fun ds d h => ?_, fun ds C h => ?_⟩
  · obtain ⟨t, b, rfl, hb, hl, rfl⟩ := h
    have ab : ∀ {i : Nat} {x : Int} {Γ : Gam}, Γ[i]? = some (.fz (.int x)) → Ed K (tCB _ (tCons (tVar i) tNil)) Γ (.int x.natAbs) := fun {i x Γ} h => ed_cb (ea_cons (ed_fz i h) ea_nil) rc_abs
    refine sd_seq (Γ1 := [.fz (.int t), .fz (.int b), .no]) (sd_ifF (et_is (et_test (ed_op (ed_fz 1 rfl) (ed_int 0) r2_eqI)) (decide_eq_false hb)) sd_next) ?_
    refine sd_seq (Γ1 := [.fz (.int t), .fz (.int b), .fz (.int (Nat.gcd t.natAbs b.natAbs : Nat))]) (sd_set 2 (ed_call (ea_cons (ab rfl) (ea_cons (ab rfl) ea_nil)) ⟨_, _, rfl, rfl⟩)) ?_
    refine sd_seq (Γ1 := [.fz (.int t), .fz (.int b), .fz (.int (cmn t b))]) (sd_if (et_test (ed_op (ed_fz 1 rfl) (ed_int 0) r2_ltI)) (fun h => ?_) fun h => ?_) ?_
    · have e : cmn t b = 0 - (Nat.gcd t.natAbs b.natAbs : Nat) := if_pos (of_decide_eq_true h)
      rw [e]
      exact sd_set 2 (ed_op (ed_int 0) (ed_fz 2 rfl) r2_subI)
    · have e : cmn t b = (Nat.gcd t.natAbs b.natAbs : Nat) := if_neg (of_decide_eq_false h)
      rw [e]
      exact sd_next
    · exact sd_ret (ed_tup (ea_cons (ed_op (ed_fz 0 rfl) (ed_fz 2 rfl) (r2_fd (cmn_fd hb hl))) (ea_cons (ed_op (ed_fz 1 rfl) (ed_fz 2 rfl) (r2_fd (cmn_fd hb hl))) ea_nil)))
  · obtain ⟨t, rfl, rfl⟩ := h
    exact sd_stop (sd_ifT (et_is (et_test (ed_op (ed_fz 1 rfl) (ed_int 0) r2_eqI)) (decide_eq_true rfl)) sd_raise) rfl

theorem ok_is_whole (T : Tx K mg a_WeighError a_Nought a_NoText a_NoRow a_NoMachine a_NoWord a_OtherSigns a_TooMany a_Machine a_NONE) : Cl P w K mg base CX0 1 "is_whole" (spR K Swh) := by
  refine clR T.d_is_whole sc_is_whole (fun ds d h => by obtain ⟨a, b, rfl, _⟩ := h; rfl) fun f cdv A outer s H E hr => ?_
  refine ⟨_, (pss_one (ps_ret (pe_and (pe_callB call_isi (by rfl) T.n_isinstance bt_isinstance (pa_cons (pv 0) (pa_cons (pe_bltn (v := .ty "int") (by rfl) T.n_int bt_int rfl) pa_nil))) (pe_one (pe_not (pe_callB call_isi (by rfl) T.n_isinstance bt_isinstance (pa_cons (pv 0) (pa_cons (pe_bltn (v := .ty "bool") (by rfl) T.n_bool bt_bool rfl) pa_nil)))))))), fun ds d h => ?_⟩
  obtain ⟨x, U, rfl, hx, rfl⟩ := h
  obtain ⟨h1, h2, h3, h4⟩ := isi_kind x hx
  refine sd_ret (ed_is (ed_andV (ed_cb (ea_cons (ed_fz 0 rfl) (ea_cons (ed_ty _) ea_nil)) (rc_isi hx h1)) fun _ => ed_notV (ed_cb (ea_cons (ed_fz 0 rfl) (ea_cons (ed_ty _) ea_nil)) (rc_isi hx h2))) ?_)
  rw [h4]
  by_cases e : U = "int"
  · subst e; rfl
  · by_cases e2 : U = "bool"
    · subst e2; rfl
    · rw [beq_eq_false_iff_ne.mpr e, beq_eq_false_iff_ne.mpr e2]; rfl

theorem ok_is_share (T : Tx K mg a_WeighError a_Nought a_NoText a_NoRow a_NoMachine a_NoWord a_OtherSigns a_TooMany a_Machine a_NONE) (c_is_whole : Cl P w K mg base CX0 1 "is_whole" (spR K Swh)) (c_divisor : Cl P w K mg base CX0 1 "divisor" (spR K Sdiv)) : Cl P w K mg base CX0 2 "is_share" (spR K Sis) := by
  refine clR T.d_is_share sc_is_share (fun ds d h => by obtain ⟨a, rfl, _⟩ := h; rfl) fun f cdv A outer s H E hr => ?_
  refine ⟨_, (pss_cons (ps_if (PW.pt (pw_or (pt_not (pt_val (pe_callB call_isi (by rfl) T.n_isinstance bt_isinstance (pa_cons (pv 0) (pa_cons (pe_bltn (v := .ty "tuple") (by rfl) T.n_tuple bt_tuple rfl) pa_nil))))) (pw_or (pt_cmpR (op_neD hr.units) (pe_callB callLen (by rfl) T.n_len bt_len (pa_cons (pv 0) pa_nil)) pe_int (nomark _)) (pw_or (pt_not (pt_val (pcl c_is_whole hr (by decide) rfl (pa_cons (pe_ix ix_seq (pv 0) pe_int (fun _ _ => rfl)) pa_nil)))) (pw_or1 (pt_not (pt_val (pcl c_is_whole hr (by decide) rfl (pa_cons (pe_ix ix_seq (pv 0) pe_int (fun _ _ => rfl)) pa_nil)))))))))
  (pss_one (ps_ret pe_bl))
  pss_nil)
  (pss_one (ps_ret (pe_and (pe_cmpR op_gt (pe_ix ix_seq (pv 0) pe_int (fun _ _ => rfl)) pe_int (nomark _)) (pe_one (pe_cmpR (op_eqD hr.units) (pcl c_divisor hr (by decide) rfl (pa_cons (pe_callB call_abs (by rfl) T.n_abs bt_abs (pa_cons (pe_ix ix_seq (pv 0) pe_int (fun _ _ => rfl)) pa_nil)) (pa_cons (pe_ix ix_seq (pv 0) pe_int (fun _ _ => rfl)) pa_nil))) pe_int (nomark _))))))), fun ds d h => ?_⟩
  obtain ⟨x, rfl, ⟨U, hx⟩, hab, rfl⟩ := h
  have isw : ∀ {te : TE} {Γ : Gam} {y : D}, (∃ T, tyD y = some T) → Ed K te Γ y → Ed K (tCall (spR K Swh) [] E0 (tCons te tNil)) Γ (.bl (isInt y)) := fun {te Γ y} ⟨T, h⟩ he => ed_call (ea_cons he ea_nil) ⟨y, T, rfl, h, rfl⟩
  have ix : ∀ {es : List D} {i : Int} {y : D}, atI es i = some y → Ed K (tOp (rIx K) (tVar 0) (tC (.int i))) [.fz (.tup es)] y := fun {es i y} h => ed_op (ed_fz 0 rfl) (ed_int i) (r2_ixT h)
  have isT : ∀ es : List D, Et K (tNot (tB (tCB (rIsi K) (tCons (tVar 0) (tCons (tC (.ty "tuple")) tNil))))) [.fz (.tup es)] false := fun es => et_nF (et_B (ed_cb (ea_cons (ed_fz 0 rfl) (ea_cons (ed_ty _) ea_nil)) (rc_isi rfl (by decide +kernel))))
  have len : ∀ es : List D, Et K (tTest (tOp (rNeD K) (tCB (rLenA K) (tCons (tVar 0) tNil)) (tC (.int 2)))) [.fz (.tup es)] (!decide ((es.length : Int) = 2)) := fun es => et_test (ed_op (ed_cb (ea_cons (ed_fz 0 rfl) ea_nil) rc_lenT) (ed_int 2) r2_neI)
  cases x with
  | tup es =>
    show Sd K E0 _ [.fz (.tup es)] _
    by_cases hl : es.length = 2
    · obtain ⟨a, b, rfl⟩ : ∃ a b, es = [a, b] := by
        match es, hl with
        | [a, b], _ => exact ⟨a, b, rfl⟩
      obtain ⟨ha, hb⟩ := hab a b rfl
      have l2 := et_is (len [a, b]) (show (!decide ((([a, b] : List D).length : Int) = 2)) = false from rfl)
      have wa := isw ha (ix (es := [a, b]) (i := 0) (y := a) rfl)
      have wb := isw hb (ix (es := [a, b]) (i := 1) (y := b) rfl)
      cases qa : isInt a with
      | false =>
        rw [qa] at wa
        have e : isSh (.tup [a, b]) = false := by cases a <;> first | rfl | cases qa
        rw [e]
        exact sd_stop (sd_ifT (et_orF (isT _) (et_orF l2 (et_orT (et_nT (et_B wa))))) (sd_ret (ed_bl false))) rfl
      | true =>
        rw [qa] at wa
        cases qb : isInt b with
        | false =>
          rw [qb] at wb
          have e : isSh (.tup [a, b]) = false := by cases a <;> cases b <;> first | rfl | cases qb
          rw [e]
          exact sd_stop (sd_ifT (et_orF (isT _) (et_orF l2 (et_orF (et_nF (et_B wa)) (et_nT (et_B wb))))) (sd_ret (ed_bl false))) rfl
        | true =>
          rw [qb] at wb
          obtain ⟨i, rfl⟩ : ∃ i, a = .int i := by cases a <;> first | exact ⟨_, rfl⟩ | cases qa
          obtain ⟨j, rfl⟩ : ∃ j, b = .int j := by cases b <;> first | exact ⟨_, rfl⟩ | cases qb
          refine sd_seq (Γ1 := [.fz (.tup [.int i, .int j])]) (sd_ifF (et_orF (isT _) (et_orF l2 (et_orF (et_nF (et_B wa)) (et_nF (et_B wb))))) sd_next) ?_
          refine sd_ret (ed_is (ed_andV (ed_op (ix rfl) (ed_int 0) r2_gt) fun h => ed_op (ed_call (ea_cons (ed_cb (ea_cons (ix rfl) ea_nil) rc_abs) (ea_cons (ix rfl) ea_nil)) ⟨i.natAbs, j.toNat, ?_, rfl⟩) (ed_int 1) r2_eqI) ?_)
          · have h' : 0 < j := of_decide_eq_true h
            rw [Int.toNat_of_nonneg (by omega)]
          · show D.bl (_ && _) = D.bl (_ && _)
            congr 2
            exact decide_eq_decide.mpr (by omega)
    · have e : isSh (.tup es) = false := by
        match es, hl with
        | [], _ => rfl
        | [a], _ => cases a <;> rfl
        | a :: b :: c :: r, _ => cases a <;> first | rfl | (cases b <;> rfl)
        | [a, b], h => exact absurd rfl h
      rw [e]
      exact sd_stop (sd_ifT (et_orF (isT _) (et_orT (et_is (len es) (by rw [decide_eq_false (by omega)]; rfl)))) (sd_ret (ed_bl false))) rfl
  | _ => first
    | (cases hx; done)
    | (cases hx; exact sd_stop (sd_ifT (et_orT (et_nT (et_B (ed_cb (ea_cons (ed_fz 0 rfl) (ea_cons (ed_ty _) ea_nil)) (rc_isi rfl (by decide +kernel)))))) (sd_ret (ed_bl false))) rfl)


/-! ### the mathematics of shares -/
theorem log2_mono {n m : Nat} (h : n ≤ m) : n.log2 ≤ m.log2 := by
  by_cases h0 : n = 0
  · subst h0; simp
  · have : n < 2 ^ (m.log2 + 1) := Nat.lt_of_le_of_lt h ((Nat.log2_lt (by omega)).mp (Nat.lt_succ_self _))
    have := (Nat.log2_lt h0).mpr this
    omega
theorem cmn_natAbs (t b : Int) : (cmn t b).natAbs = Nat.gcd t.natAbs b.natAbs := by unfold cmn; split <;> omega
theorem cmn_dvd (t b : Int) : cmn t b ∣ t ∧ cmn t b ∣ b := by
  rw [← Int.natAbs_dvd_natAbs, ← Int.natAbs_dvd_natAbs, cmn_natAbs]
  exact ⟨Nat.gcd_dvd_left _ _, Nat.gcd_dvd_right _ _⟩
theorem mkS_mul {t b : Int} (hb : b ≠ 0) : t = cmn t b * (mkS t b).1 ∧ b = cmn t b * (mkS t b).2 := by
  obtain ⟨h1, h2⟩ := cmn_dvd t b
  unfold mkS
  constructor
  · show t = cmn t b * t.fdiv (cmn t b)
    rw [Int.fdiv_eq_ediv_of_dvd h1, Int.mul_ediv_cancel' h1]
  · show b = cmn t b * b.fdiv (cmn t b)
    rw [Int.fdiv_eq_ediv_of_dvd h2, Int.mul_ediv_cancel' h2]
theorem cmn_sign {t b : Int} (hb : b ≠ 0) : 0 < cmn t b * b := by
  have hg : 0 < Nat.gcd t.natAbs b.natAbs := Nat.gcd_pos_of_pos_right _ (by omega)
  unfold cmn
  split
  · exact Int.mul_pos_of_neg_of_neg (by omega) (by omega)
  · exact Int.mul_pos (by omega) (by omega)
theorem mkS_pos {t b : Int} (hb : b ≠ 0) : 0 < (mkS t b).2 := by
  have h1 := (mkS_mul (t := t) hb).2
  have h2 := cmn_sign (t := t) hb
  have h3 : 0 < cmn t b * cmn t b * (mkS t b).2 := by
    rw [Int.mul_assoc, ← h1]; exact h2
  have h4 : 0 < cmn t b * cmn t b := by
    have := cmn_ne (t := t) hb
    rcases Int.lt_or_gt_of_ne this with h | h
    · exact Int.mul_pos_of_neg_of_neg h h
    · exact Int.mul_pos h h
  rcases Int.lt_trichotomy (mkS t b).2 0 with h | h | h
  · have := Int.mul_neg_of_pos_of_neg h4 h; omega
  · rw [h, Int.mul_zero] at h3; omega
  · exact h
theorem mkS_cop {t b : Int} (hb : b ≠ 0) : Nat.gcd (mkS t b).1.natAbs (mkS t b).2.natAbs = 1 := by
  obtain ⟨h1, h2⟩ := mkS_mul (t := t) hb
  have hg : 0 < Nat.gcd t.natAbs b.natAbs := Nat.gcd_pos_of_pos_right _ (by omega)
  have e1 : t.natAbs = Nat.gcd t.natAbs b.natAbs * (mkS t b).1.natAbs := by
    have := congrArg Int.natAbs h1
    rw [Int.natAbs_mul, cmn_natAbs] at this
    exact this
  have e2 : b.natAbs = Nat.gcd t.natAbs b.natAbs * (mkS t b).2.natAbs := by
    have := congrArg Int.natAbs h2
    rw [Int.natAbs_mul, cmn_natAbs] at this
    exact this
  have e3 : Nat.gcd t.natAbs b.natAbs = Nat.gcd t.natAbs b.natAbs * Nat.gcd (mkS t b).1.natAbs (mkS t b).2.natAbs := by
    rw [← Nat.gcd_mul_left, ← e1, ← e2]
  have := Nat.eq_of_mul_eq_mul_left hg (show Nat.gcd t.natAbs b.natAbs * 1 = Nat.gcd t.natAbs b.natAbs * Nat.gcd (mkS t b).1.natAbs (mkS t b).2.natAbs by rw [Nat.mul_one]; exact e3)
  exact this.symm
theorem mkS_cross {t b : Int} (hb : b ≠ 0) : (mkS t b).1 * b = t * (mkS t b).2 := by
  obtain ⟨h1, h2⟩ := mkS_mul (t := t) hb
  have e : (mkS t b).1 * b = (mkS t b).1 * (cmn t b * (mkS t b).2) := congrArg _ h2
  have e2 : t * (mkS t b).2 = cmn t b * (mkS t b).1 * (mkS t b).2 := congrArg (· * (mkS t b).2) h1
  rw [e, e2, ← Int.mul_assoc, Int.mul_comm (mkS t b).1]
theorem mkS_good {t b : Int} (hb : b ≠ 0) : isSh (sh (mkS t b)) = true := by
  have h1 := mkS_pos (t := t) hb
  have h2 := mkS_cop (t := t) hb
  have e : (mkS t b).2.toNat = (mkS t b).2.natAbs := by omega
  show (decide (0 < (mkS t b).2) && decide (Nat.gcd (mkS t b).1.natAbs (mkS t b).2.toNat = 1)) = true
  rw [e, decide_eq_true h1, decide_eq_true h2]; rfl
/-- smaller than at first -/
theorem mkS_le {t b : Int} (hb : b ≠ 0) : (mkS t b).1.natAbs ≤ t.natAbs ∧ (mkS t b).2.natAbs ≤ b.natAbs := by
  obtain ⟨h1, h2⟩ := mkS_mul (t := t) hb
  have hc := cmn_ne (t := t) hb
  have e1 := congrArg Int.natAbs h1
  have e2 := congrArg Int.natAbs h2
  rw [Int.natAbs_mul] at e1 e2
  have : 1 ≤ (cmn t b).natAbs := by omega
  constructor
  · rw [e1]; exact Nat.le_mul_of_pos_left _ this
  · rw [e2]; exact Nat.le_mul_of_pos_left _ this

/-! ### plus, less, times, over -/
def LIM : Nat := 8000
theorem log_lim {x : Int} {n : Nat} (h : x.natAbs < 2 ^ n) (h0 : 0 < n) (hn : n ≤ LIM) : x.natAbs.log2 < 9000 := Nat.lt_of_lt_of_le (log2_le h h0) (Nat.le_trans hn (by decide))
def Sz (n : Nat) (p : Int × Int) : Prop := 0 < n ∧ p.1.natAbs < 2 ^ n ∧ p.2.natAbs < 2 ^ n
theorem mul_lt {x y : Int} {n m : Nat} (hx : x.natAbs < 2 ^ n) (hy : y.natAbs < 2 ^ m) : (x * y).natAbs < 2 ^ (n + m) := by
  rw [Int.natAbs_mul, Nat.pow_add]
  exact Nat.mul_lt_mul'' hx hy
theorem big_of {x y : Int} {n m : Nat} (hx : x.natAbs < 2 ^ n) (hy : y.natAbs < 2 ^ m) (h0 : 0 < n) (h1 : 0 < m) (h : n + m ≤ LIM) : CBig x y := CBig.of hx hy h0 h1 (Nat.le_trans h (by decide))
def Two (ds : List D) (p q : Int × Int) : Prop := ds = [sh p, sh q] ∧ p.2 ≠ 0 ∧ q.2 ≠ 0 ∧ ∃ n m, Sz n p ∧ Sz m q ∧ n + m ≤ LIM
def plusS (p q : Int × Int) : Int × Int := mkS (p.1 * q.2 + q.1 * p.2) (p.2 * q.2)
def lessS (p q : Int × Int) : Int × Int := mkS (p.1 * q.2 - q.1 * p.2) (p.2 * q.2)
def timesS (p q : Int × Int) : Int × Int := mkS (p.1 * q.1) (p.2 * q.2)
def overS (p q : Int × Int) : Int × Int := mkS (p.1 * q.2) (p.2 * q.1)
def Spl : List D → D → Prop := fun ds d => ∃ p q, Two ds p q ∧ d = sh (plusS p q)
def Sle : List D → D → Prop := fun ds d => ∃ p q, Two ds p q ∧ d = sh (lessS p q)
def Sti : List D → D → Prop := fun ds d => ∃ p q, Two ds p q ∧ d = sh (timesS p q)
def Sov : List D → D → Prop := fun ds d => ∃ p q, Two ds p q ∧ q.1 ≠ 0 ∧ d = sh (overS p q)
def Tov (C : Addr) : List D → Addr → Prop := fun ds c => ∃ p q, Two ds p q ∧ q.1 = 0 ∧ c = C
section
variable {K : PySem.W.Frag} {Γ : Gam} {p q : Int × Int}
theorem ix0 {te : TE} (h : Ed K te Γ (sh p)) : Ed K (tOp (rIx K) te (tC (.int 0))) Γ (.int p.1) := ed_op h (ed_int 0) (r2_ixT rfl)
theorem ix1 {te : TE} (h : Ed K te Γ (sh p)) : Ed K (tOp (rIx K) te (tC (.int 1))) Γ (.int p.2) := ed_op h (ed_int 1) (r2_ixT rfl)
end
theorem two_len {ds : List D} {p q : Int × Int} (h : Two ds p q) : ds.length = 2 := by rw [h.1]; rfl
theorem two_den {ds : List D} {p q : Int × Int} (h : Two ds p q) : p.2 * q.2 ≠ 0 ∧ (p.2 * q.2).natAbs.log2 < 9000 := by
  obtain ⟨_, h1, h2, n, m, z1, z2, z⟩ := h
  exact ⟨Int.mul_ne_zero h1 h2, log_lim (mul_lt z1.2.2 z2.2.2) (by have := z1.1; omega) z⟩
theorem ok_plus (T : Tx K mg a_WeighError a_Nought a_NoText a_NoRow a_NoMachine a_NoWord a_OtherSigns a_TooMany a_Machine a_NONE) (c_share : Cl P w K mg base (L2.CX P w) 2 "share" (spX K Ssh (Tsh a_Nought))) : Cl P w K mg base CX0 3 "plus" (spR K Spl) := by
  refine clR T.d_plus sc_plus (fun ds d h => by obtain ⟨p, q, h, _⟩ := h; exact two_len h) fun f cdv A outer s H E hr => ?_
  refine ⟨_, (pss_one (ps_ret (pclX c_share hr (by decide) rfl (pa_cons (pe_op opAdd (pe_op opMul (pe_ix ix_seq (pv 0) pe_int (fun _ _ => rfl)) (pe_ix ix_seq (pv 1) pe_int (fun _ _ => rfl))) (pe_op opMul (pe_ix ix_seq (pv 1) pe_int (fun _ _ => rfl)) (pe_ix ix_seq (pv 0) pe_int (fun _ _ => rfl)))) (pa_cons (pe_op opMul (pe_ix ix_seq (pv 0) pe_int (fun _ _ => rfl)) (pe_ix ix_seq (pv 1) pe_int (fun _ _ => rfl))) pa_nil))))), fun ds d h => ?_⟩
  obtain ⟨p, q, h, rfl⟩ := h
  obtain ⟨d1, d2⟩ := two_den h
  obtain ⟨rfl, h1, h2, n, m, z1, z2, z⟩ := h
  exact sd_ret (ed_callX (ea_cons (ed_op (ed_op (ix0 (ed_fz 0 rfl)) (ix1 (ed_fz 1 rfl)) (r2_mulI (big_of z1.2.1 z2.2.2 z1.1 z2.1 z))) (ed_op (ix0 (ed_fz 1 rfl)) (ix1 (ed_fz 0 rfl)) (r2_mulI (big_of z2.2.1 z1.2.2 z2.1 z1.1 (by omega)))) (by first | exact r2_addI | exact r2_subI)) (ea_cons (ed_op (ix1 (ed_fz 0 rfl)) (ix1 (ed_fz 1 rfl)) (r2_mulI (big_of z1.2.2 z2.2.2 z1.1 z2.1 z))) ea_nil)) ⟨_, _, rfl, d1, d2, rfl⟩)

theorem ok_times (T : Tx K mg a_WeighError a_Nought a_NoText a_NoRow a_NoMachine a_NoWord a_OtherSigns a_TooMany a_Machine a_NONE) (c_share : Cl P w K mg base (L2.CX P w) 2 "share" (spX K Ssh (Tsh a_Nought))) : Cl P w K mg base CX0 3 "times" (spR K Sti) := by
  refine clR T.d_times sc_times (fun ds d h => by obtain ⟨p, q, h, _⟩ := h; exact two_len h) fun f cdv A outer s H E hr => ?_
  refine ⟨_, (pss_one (ps_ret (pclX c_share hr (by decide) rfl (pa_cons (pe_op opMul (pe_ix ix_seq (pv 0) pe_int (fun _ _ => rfl)) (pe_ix ix_seq (pv 1) pe_int (fun _ _ => rfl))) (pa_cons (pe_op opMul (pe_ix ix_seq (pv 0) pe_int (fun _ _ => rfl)) (pe_ix ix_seq (pv 1) pe_int (fun _ _ => rfl))) pa_nil))))), fun ds d h => ?_⟩
  obtain ⟨p, q, h, rfl⟩ := h
  obtain ⟨d1, d2⟩ := two_den h
  obtain ⟨rfl, h1, h2, n, m, z1, z2, z⟩ := h
  exact sd_ret (ed_callX (ea_cons (ed_op (ix0 (ed_fz 0 rfl)) (ix0 (ed_fz 1 rfl)) (r2_mulI (big_of z1.2.1 z2.2.1 z1.1 z2.1 z))) (ea_cons (ed_op (ix1 (ed_fz 0 rfl)) (ix1 (ed_fz 1 rfl)) (r2_mulI (big_of z1.2.2 z2.2.2 z1.1 z2.1 z))) ea_nil)) ⟨_, _, rfl, d1, d2, rfl⟩)

/-! ### the script's cells -/
def cellAt (ns : List Int) (k : Nat) : Int := ns.getD k 0
theorem atI_nat' {α : Type} {xs : List α} {k : Nat} (h : k < xs.length) : atI xs (k : Int) = some xs[k] := by
  unfold atI ixN
  rw [if_pos (by omega), if_pos (by omega)]
  simp [h]
theorem atI_getD {α : Type} {xs : List α} {j : Int} (h0 : 0 ≤ j) (h : j < xs.length) (d : α) : atI xs j = some (xs.getD j.toNat d) := by
  obtain ⟨k, rfl⟩ : ∃ k : Nat, j = k := ⟨j.toNat, by omega⟩
  have hk : k < xs.length := by omega
  rw [atI_nat' hk]
  simp [List.getD, hk]
def Sca : List D → D → Prop := fun ds d => ∃ (ns : List Int) (k : Nat), ds = [.scr ns, .int k] ∧ d = .int (cellAt ns k)
theorem ok_cell_at (T : Tx K mg a_WeighError a_Nought a_NoText a_NoRow a_NoMachine a_NoWord a_OtherSigns a_TooMany a_Machine a_NONE) : Cl P w K mg base CX0 1 "_law_cell_at" (spR K Sca) := by
  refine clR T.d__law_cell_at sc_law_cell_at (fun ds d h => by obtain ⟨a, b, rfl, _⟩ := h; rfl) fun f cdv A outer s H E hr => ?_
  refine ⟨_, (pss_cons (ps_if (pt_cmpR opLt (pv 1) (pe_callB callLen (by rfl) T.n_len bt_len (pa_cons (pv 0) pa_nil)) (nomark _))
  (pss_one (ps_ret (pe_ix ix_seq (pv 0) (pv 1) (fun _ _ => rfl))))
  pss_nil)
  (pss_one (ps_ret pe_int))), fun ds d h => ?_⟩
  obtain ⟨ns, k, rfl, rfl⟩ := h
  have test : Et K (tTest (tOp rLtA (tVar 1) (tCB (rLenA K) (tCons (tVar 0) tNil)))) [.fz (.scr ns), .fz (.int k)] (decide ((k : Int) < ns.length)) := et_test (ed_op (ed_fz 1 rfl) (ed_cb (ea_cons (ed_fz 0 rfl) ea_nil) rc_lenP) r2_ltI)
  by_cases hk : k < ns.length
  · have e : cellAt ns k = ns[k] := by simp [cellAt, List.getD, hk]
    rw [e]
    exact sd_stop (sd_ifT (et_is test (decide_eq_true (by omega))) (sd_ret (ed_op (ed_fz 0 rfl) (ed_fz 1 rfl) (r2_ixP (atI_nat' hk))))) rfl
  · have e : cellAt ns k = 0 := by simp [cellAt, List.getD, List.getElem?_eq_none (show ns.length ≤ k by omega)]
    rw [e]
    exact sd_seq (sd_ifF (et_is test (decide_eq_false (by omega))) sd_next) (sd_ret (ed_int 0))
/-- a cell is not too great -/
def Sm (c : Int) : Prop := c.natAbs.log2 ≤ 1048576
theorem sm_bits {c : Int} (h : Builtin.Int.intBits c ≤ 1048576) : Sm c := by
  unfold Sm
  unfold Builtin.Int.intBits at h
  split at h
  · rename_i h0
    have : c.natAbs = 0 := by simpa using h0
    rw [this]; simp
  · omega
theorem sm_at {ns : List Int} (h : ∀ z ∈ ns, Builtin.Int.intBits z ≤ 1048576) (k : Nat) : Sm (cellAt ns k) := by
  by_cases hk : k < ns.length
  · have e : cellAt ns k = ns[k] := by simp [cellAt, List.getD, hk]
    rw [e]; exact sm_bits (h _ (List.getElem_mem hk))
  · have e : cellAt ns k = 0 := by simp [cellAt, List.getD, List.getElem?_eq_none (show ns.length ≤ k by omega)]
    rw [e]; unfold Sm; simp

/-! ### shares by any bottom -/
theorem mkS_unique {t b p q : Int} (hb : b ≠ 0) (hq : 0 < q) (hc : Nat.gcd p.natAbs q.natAbs = 1) (h : p * b = t * q) : mkS t b = (p, q) := by
  have h1 := mkS_cross (t := t) hb
  have h2 := mkS_pos (t := t) hb
  have h3 := mkS_cop (t := t) hb
  generalize mkS t b = r at h1 h2 h3
  obtain ⟨p', q'⟩ := r
  simp only at h1 h2 h3
  have e : p' * q = p * q' := by
    apply Int.eq_of_mul_eq_mul_right hb
    calc p' * q * b = (p' * b) * q := by rw [Int.mul_right_comm]
      _ = (t * q') * q := by rw [h1]
      _ = (t * q) * q' := by rw [Int.mul_right_comm]
      _ = (p * b) * q' := by rw [h]
      _ = p * q' * b := by rw [Int.mul_right_comm]
  have en : p'.natAbs * q.natAbs = p.natAbs * q'.natAbs := by rw [← Int.natAbs_mul, ← Int.natAbs_mul, e]
  have d1 : q'.natAbs ∣ q.natAbs := (Nat.Coprime.symm h3).dvd_of_dvd_mul_left ⟨p.natAbs, by rw [en, Nat.mul_comm]⟩
  have d2 : q.natAbs ∣ q'.natAbs := (Nat.Coprime.symm hc).dvd_of_dvd_mul_left ⟨p'.natAbs, by rw [← en, Nat.mul_comm]⟩
  have eq : q' = q := by
    have := Nat.dvd_antisymm d1 d2
    omega
  subst eq
  have ep : p' = p := Int.eq_of_mul_eq_mul_right (by omega) e
  rw [ep]
theorem mkS_congr {t b t' b' : Int} (hb : b ≠ 0) (hb' : b' ≠ 0) (h : t * b' = t' * b) : mkS t b = mkS t' b' := by
  refine mkS_unique hb (mkS_pos hb') (mkS_cop hb') ?_
  have h1 := mkS_cross (t := t') hb'
  apply Int.eq_of_mul_eq_mul_right hb'
  calc (mkS t' b').1 * b * b' = ((mkS t' b').1 * b') * b := by rw [Int.mul_right_comm]
    _ = (t' * (mkS t' b').2) * b := by rw [h1]
    _ = (t' * b) * (mkS t' b').2 := by rw [Int.mul_right_comm]
    _ = (t * b') * (mkS t' b').2 := by rw [h]
    _ = t * (mkS t' b').2 * b' := by rw [Int.mul_right_comm]
theorem plus_mk {a b c d : Int} (hb : b ≠ 0) (hd : d ≠ 0) : plusS (mkS a b) (mkS c d) = mkS (a * d + c * b) (b * d) := by
  have h1 := mkS_cross (t := a) hb
  have h2 := mkS_cross (t := c) hd
  have p1 := mkS_pos (t := a) hb
  have p2 := mkS_pos (t := c) hd
  unfold plusS
  refine mkS_congr (Int.mul_ne_zero (by omega) (by omega)) (Int.mul_ne_zero hb hd) ?_
  generalize (mkS a b).1 = p at *
  generalize (mkS a b).2 = q at *
  generalize (mkS c d).1 = r at *
  generalize (mkS c d).2 = s at *
  grind
theorem less_mk {a b c d : Int} (hb : b ≠ 0) (hd : d ≠ 0) : lessS (mkS a b) (mkS c d) = mkS (a * d - c * b) (b * d) := by
  have h1 := mkS_cross (t := a) hb
  have h2 := mkS_cross (t := c) hd
  have p1 := mkS_pos (t := a) hb
  have p2 := mkS_pos (t := c) hd
  unfold lessS
  refine mkS_congr (Int.mul_ne_zero (by omega) (by omega)) (Int.mul_ne_zero hb hd) ?_
  generalize (mkS a b).1 = p at *
  generalize (mkS a b).2 = q at *
  generalize (mkS c d).1 = r at *
  generalize (mkS c d).2 = s at *
  grind
theorem times_mk {a b c d : Int} (hb : b ≠ 0) (hd : d ≠ 0) : timesS (mkS a b) (mkS c d) = mkS (a * c) (b * d) := by
  have h1 := mkS_cross (t := a) hb
  have h2 := mkS_cross (t := c) hd
  have p1 := mkS_pos (t := a) hb
  have p2 := mkS_pos (t := c) hd
  unfold timesS
  refine mkS_congr (Int.mul_ne_zero (by omega) (by omega)) (Int.mul_ne_zero hb hd) ?_
  generalize (mkS a b).1 = p at *
  generalize (mkS a b).2 = q at *
  generalize (mkS c d).1 = r at *
  generalize (mkS c d).2 = s at *
  grind
theorem plus_same {a b c : Int} (hb : b ≠ 0) : plusS (mkS a b) (mkS c b) = mkS (a + c) b := by
  rw [plus_mk hb hb]
  exact mkS_congr (Int.mul_ne_zero hb hb) hb (by grind)
theorem mkS_zero {b : Int} (hb : b ≠ 0) : mkS 0 b = (0, 1) := mkS_unique hb (by decide) (by decide) (by omega)
theorem mkS_scale {k t b : Int} (hk : k ≠ 0) (hb : b ≠ 0) : mkS (k * t) (k * b) = mkS t b := mkS_congr (Int.mul_ne_zero hk hb) hb (by grind)
theorem getD_at {α : Type} {xs : List α} {j : Nat} {d : α} (h : j < xs.length) : xs.getD j d = xs[j] := by simp [List.getD, h]
/-! ### rows over one bottom -/
def shL (ps : List (Int × Int)) : D := .lst (ps.map sh)
def tabL (T : List (List (Int × Int))) : D := .lst (T.map shL)
def rwS (B : Int) (ts : List Int) : List (Int × Int) := ts.map fun t => mkS t B
def dot : List Int → List Int → Int
  | a :: as, b :: bs => a * b + dot as bs
  | _, _ => 0
def Bz (B : Int) (w : Nat) : Prop := 0 < B ∧ B.natAbs < 2 ^ w
def Nz (ts : List Int) (w : Nat) : Prop := ∀ t ∈ ts, t.natAbs < 2 ^ w
theorem pow_le2 {a b : Nat} (h : a ≤ b) : 2 ^ a ≤ 2 ^ b := Nat.pow_le_pow_right (by decide) h
theorem Bz.mono {B : Int} {w v : Nat} (h : Bz B w) (e : w ≤ v) : Bz B v := ⟨h.1, Nat.lt_of_lt_of_le h.2 (pow_le2 e)⟩
theorem Nz.mono {B : List Int} {w v : Nat} (h : Nz B w) (e : w ≤ v) : Nz B v := fun t ht => Nat.lt_of_lt_of_le (h t ht) (pow_le2 e)
theorem Bz.mul {A B : Int} {w v : Nat} (h : Bz A w) (e : Bz B v) : Bz (A * B) (w + v) := ⟨Int.mul_pos h.1 e.1, mul_lt h.2 e.2⟩
theorem sz_mk {t B : Int} {w : Nat} (hw : 0 < w) (h : Bz B w) (ht : t.natAbs < 2 ^ w) : Sz w (mkS t B) := by
  have hb : B ≠ 0 := by have := h.1; omega
  obtain ⟨a, b⟩ := mkS_le (t := t) hb
  exact ⟨hw, Nat.lt_of_le_of_lt a ht, Nat.lt_of_le_of_lt b h.2⟩
theorem mk_ne {t B : Int} (h : 0 < B) : (mkS t B).2 ≠ 0 := by
  have := mkS_pos (t := t) (b := B) (by omega)
  omega
theorem two_mk {t u B1 B2 : Int} {w1 w2 : Nat} (h1 : Bz B1 w1) (h2 : Bz B2 w2) (ht : t.natAbs < 2 ^ w1) (hu : u.natAbs < 2 ^ w2) (p1 : 0 < w1) (p2 : 0 < w2) (hw : w1 + w2 ≤ LIM) : Two [sh (mkS t B1), sh (mkS u B2)] (mkS t B1) (mkS u B2) :=
  ⟨rfl, mk_ne h1.1, mk_ne h2.1, w1, w2, sz_mk p1 h1 ht, sz_mk p2 h2 hu, hw⟩
theorem dot_lt {w v : Nat} : ∀ {ts us : List Int}, Nz ts w → Nz us v → (dot ts us).natAbs ≤ ts.length * 2 ^ (w + v)
  | [], _, _, _ => by simp [dot]
  | _ :: _, [], _, _ => by simp [dot]
  | t :: ts, u :: us, h1, h2 => by
    have ih := dot_lt (ts := ts) (us := us) (fun x hx => h1 x (List.mem_cons_of_mem _ hx)) fun x hx => h2 x (List.mem_cons_of_mem _ hx)
    have m := mul_lt (h1 t List.mem_cons_self) (h2 u List.mem_cons_self)
    show (t * u + dot ts us).natAbs ≤ (ts.length + 1) * 2 ^ (w + v)
    rw [Nat.add_mul, Nat.one_mul]
    have := Int.natAbs_add_le (t * u) (dot ts us)
    omega
theorem dot_lt16 {w v : Nat} {ts us : List Int} (h1 : Nz ts w) (h2 : Nz us v) (hl : ts.length ≤ 15) : (dot ts us).natAbs < 2 ^ (w + v + 4) := by
  have := dot_lt h1 h2
  have p : 0 < 2 ^ (w + v) := Nat.pow_pos (by decide)
  have e : 2 ^ (w + v + 4) = 16 * 2 ^ (w + v) := by rw [Nat.pow_add]; omega
  have : ts.length * 2 ^ (w + v) ≤ 15 * 2 ^ (w + v) := Nat.mul_le_mul_right _ hl
  omega
/-- by a row and a table -/
def colI (T : List (List Int)) (j : Nat) : List Int := T.map fun r => r.getD j 0
def ledI (ts : List Int) (T : List (List Int)) : List Int := (List.range ts.length).map fun j => dot ts (colI T j)

/-! ### weighed, led -/
theorem zp_sh (ps qs : List (Int × Int)) : zp (ps.map sh) (qs.map sh) = (ps.zip qs).map fun x => .tup [sh x.1, sh x.2] := by
  unfold zp
  rw [List.zip_map, List.map_map] <;> rfl
def Swg : List D → D → Prop := fun ds d => ∃ (B1 B2 : Int) (ts us : List Int) (w1 w2 : Nat), ds = [shL (rwS B1 ts), shL (rwS B2 us)] ∧ Bz B1 w1 ∧ Bz B2 w2 ∧ Nz ts w1 ∧ Nz us w2 ∧ ts.length ≤ 15 ∧ 0 < w1 ∧ 0 < w2 ∧ 2 * (w1 + w2) + 10 ≤ LIM ∧ d = sh (mkS (dot ts us) (B1 * B2))
theorem ok_weighed (T : Tx K mg a_WeighError a_Nought a_NoText a_NoRow a_NoMachine a_NoWord a_OtherSigns a_TooMany a_Machine a_NONE) (c_plus : Cl P w K mg base CX0 3 "plus" (spR K Spl)) (c_times : Cl P w K mg base CX0 3 "times" (spR K Sti)) : Cl P w K mg base CX0 4 "weighed" (spR K Swg) := by
  refine clR T.d_weighed sc_weighed (fun ds d h => by obtain ⟨B1, B2, ts, us, w1, w2, rfl, _⟩ := h; rfl) fun f cdv A outer s H E hr => ?_
  refine ⟨_, (pss_cons (ps_set (i := 2) sc_weighed.nd rfl (by first | exact Or.inl rfl | exact Or.inr rfl) (pe_glob (v := .ref a_NONE) rfl T.m_NONE rfl))
  (pss_cons (ps_for PassesOwn.never rfl (pi_zip (by rfl) T.n_zip (pa_cons (pv 0) (pa_cons (pv 1) pa_nil))) (pg_tup rfl (pgs_cons (pg_name (i := 3) sc_weighed.nd rfl (by first | exact Or.inl rfl | exact Or.inr rfl)) (pgs_cons (pg_name (i := 4) sc_weighed.nd rfl (by first | exact Or.inl rfl | exact Or.inr rfl)) pgs_nil)))
  (pss_one (ps_set (i := 2) sc_weighed.nd rfl (by first | exact Or.inl rfl | exact Or.inr rfl) (pcl c_plus hr (by decide) rfl (pa_cons (pv 2) (pa_cons (pcl c_times hr (by decide) rfl (pa_cons (pv 3) (pa_cons (pv 4) pa_nil))) pa_nil))))))
  (pss_one (ps_ret (pv 2))))), fun ds d h => ?_⟩
  obtain ⟨B1, B2, ts, us, w1, w2, rfl, b1, b2, n1, n2, hl, p1, p2, hw, rfl⟩ := h
  have bb := b1.mul b2
  have b0 : B1 * B2 ≠ 0 := by have := bb.1; omega
  refine sd_seq (Γ1 := [.fz (shL (rwS B1 ts)), .fz (shL (rwS B2 us)), .fz (sh (mkS 0 (B1 * B2))), .no, .no]) (sd_set 2 (ed_is (ed_pair T.q_NONE) (by rw [mkS_zero b0]))) ?_
  refine sd_seq (Γ1 := [.fz (shL (rwS B1 ts)), .fz (shL (rwS B2 us)), .fz (sh (mkS (dot ts us) (B1 * B2))), .no, .no]) (sd_for (ei_zip (ea_cons (ed_fz 0 rfl) (ea_cons (ed_fz 1 rfl) ea_nil))) ?_) (sd_ret (ed_fz 2 rfl))
  suffices main : ∀ (xs ys : List Int) (a : Int), Nz xs w1 → Nz ys w2 → a.natAbs + xs.length * 2 ^ (w1 + w2) ≤ 15 * 2 ^ (w1 + w2) → LoopF K E0 _ _ (zp ((rwS B1 xs).map sh) ((rwS B2 ys).map sh)) [.fz (shL (rwS B1 ts)), .fz (shL (rwS B2 us)), .fz (sh (mkS a (B1 * B2))), .no, .no] (.nx [.fz (shL (rwS B1 ts)), .fz (shL (rwS B2 us)), .fz (sh (mkS (a + dot xs ys) (B1 * B2))), .no, .no]) by
    have z := main ts us 0 n1 n2 (by rw [Int.natAbs_zero, Nat.zero_add]; exact Nat.mul_le_mul_right _ hl)
    rw [Int.zero_add] at z
    exact z
  intro xs
  induction xs with
  | nil =>
    intro ys a h1 h2 h3
    rw [show a + dot [] ys = a by simp [dot]]
    exact .done
  | cons x xs ih =>
    intro ys a h1 h2 h3
    cases ys with
    | nil =>
      rw [show a + dot (x :: xs) [] = a by simp [dot]]
      exact .done
    | cons y ys =>
      have m := mul_lt (h1 x List.mem_cons_self) (h2 y List.mem_cons_self)
      have tri := Int.natAbs_add_le a (x * y)
      have ex : (xs.length + 1) * 2 ^ (w1 + w2) = xs.length * 2 ^ (w1 + w2) + 2 ^ (w1 + w2) := by rw [Nat.add_mul, Nat.one_mul]
      have h3' : a.natAbs + (xs.length + 1) * 2 ^ (w1 + w2) ≤ 15 * 2 ^ (w1 + w2) := h3
      have e4 : 2 ^ (w1 + w2 + 4) = 16 * 2 ^ (w1 + w2) := by rw [Nat.pow_add]; omega
      have z := ih ys (a + x * y) (fun t ht => h1 t (List.mem_cons_of_mem _ ht)) (fun t ht => h2 t (List.mem_cons_of_mem _ ht)) (by omega)
      rw [show a + x * y + dot xs ys = a + dot (x :: xs) (y :: ys) by simp only [dot]; omega] at z
      refine .step (js := [3, 4]) (Γ1 := [.fz (shL (rwS B1 ts)), .fz (shL (rwS B2 us)), .fz (sh (mkS a (B1 * B2))), .fz (sh (mkS x B1)), .fz (sh (mkS y B2))]) (eg_tup (egs_cons (eg_name 3) (egs_cons (eg_name 4) egs_nil)) rfl) ?_ z
      refine Sd.lpLe (Γ1 := [.fz (shL (rwS B1 ts)), .fz (shL (rwS B2 us)), .fz (sh (mkS (a + x * y) (B1 * B2))), .fz (sh (mkS x B1)), .fz (sh (mkS y B2))]) (Sd.toLp (sd_set 2 (ed_is (ed_call (ea_cons (ed_fz 2 rfl) (ea_cons (ed_call (ea_cons (ed_fz 3 rfl) (ea_cons (ed_fz 4 rfl) ea_nil)) ⟨mkS x B1, mkS y B2, two_mk b1 b2 (h1 x List.mem_cons_self) (h2 y List.mem_cons_self) p1 p2 (by omega), rfl⟩) ea_nil)) ⟨mkS a (B1 * B2), timesS (mkS x B1) (mkS y B2), ?_, rfl⟩) ?_))) ?_
      · rw [times_mk (by have := b1.1; omega) (by have := b2.1; omega)]
        exact two_mk (bb.mono (show w1 + w2 ≤ w1 + w2 + 4 by omega)) (bb.mono (show w1 + w2 ≤ w1 + w2 + 4 by omega)) (by omega) (by omega) (by omega) (by omega) (by omega)
      · rw [times_mk (by have := b1.1; omega) (by have := b2.1; omega), plus_same b0]
      · exact .cons (.inr rfl) (.cons (.inr rfl) (.cons (.inr rfl) (.cons (.inl rfl) (.cons (.inl rfl) .nil))))
def Sld : List D → List D → Prop := fun ds d => ∃ (B1 B2 : Int) (ts : List Int) (U : List (List Int)) (w1 w2 : Nat), ds = [shL (rwS B1 ts), tabL (U.map (rwS B2))] ∧ Bz B1 w1 ∧ Bz B2 w2 ∧ Nz ts w1 ∧ (∀ r ∈ U, Nz r w2 ∧ ts.length ≤ r.length) ∧ U.length ≤ 15 ∧ ts.length ≤ 15 ∧ 0 < w1 ∧ 0 < w2 ∧ 2 * (w1 + w2) + 10 ≤ LIM ∧ d = (rwS (B1 * B2) (ledI ts U)).map sh
theorem ok_led (T : Tx K mg a_WeighError a_Nought a_NoText a_NoRow a_NoMachine a_NoWord a_OtherSigns a_TooMany a_Machine a_NONE) (c_weighed : Cl P w K mg base CX0 4 "weighed" (spR K Swg)) : Cl P w K mg base CX0 5 "led" (spW K Sld) := by
  refine clW T.d_led sc_led (fun ds d h => by obtain ⟨B1, B2, ts, us, w1, w2, rfl, _⟩ := h; rfl) fun f cdv A outer s H E hr => ?_
  refine ⟨_, (pss_one (ps_ret (pe_lc rfl sc_led.nd (own := [("place", 2)]) (pi_range1 rfl T.n_range (pa_cons (pe_callB callLen (by rfl) T.n_len bt_len (pa_cons (pv 0) pa_nil)) pa_nil)) (blkOk_by (by kernel_rfl)) (fun _ _ _ _ _ => (pg_name (i := 2) sc_led.nd rfl (by first | exact Or.inl rfl | exact Or.inr rfl))) (fun _ _ _ _ _ => pts_nil) (fun _ _ _ _ _ => (pcl c_weighed hr (by decide) rfl (pa_cons (pv 0) (pa_cons (pe_lc rfl sc_led.nd (own := [("line", 3)]) (pi_cast (pi_list (pv 1)) (rfl : _ = iList K _)) (blkOk_by (by kernel_rfl)) (fun _ _ _ _ _ => (pg_name (i := 3) sc_led.nd rfl (by first | exact Or.inl rfl | exact Or.inr rfl))) (fun _ _ _ _ _ => pts_nil) (fun _ _ _ _ _ => (pe_ix (ix_seqK (K := K) rfl) (pv 3) (pv 2) (fun _ _ => rfl)))) pa_nil))))))), fun ds d h => ?_⟩
  obtain ⟨B1, B2, ts, U, w1, w2, rfl, b1, b2, n1, n2, hU, hl, p1, p2, hw, rfl⟩ := h
  have hl' : ((rwS B1 ts).map sh).length = ts.length := by simp [rwS]
  refine sd_retW (ew_is (ew_map (List.range ts.length) (fun i => .int (0 + (i : Nat))) (fun j => sh (mkS (dot ts (colI U j)) (B1 * B2))) (Ei.is (ei_rng1 (n := (ts.length : Int)) (ea_cons (ed_is (ed_cb (ea_cons (ed_fz 0 rfl) ea_nil) rc_lenL) (by rw [hl'])) ea_nil) (by omega)) (by rw [Int.toNat_natCast]; rfl)) (by rw [List.length_range]; omega) fun j hj => ⟨[2], _, eg_name 2, by simp, ?_⟩) ?_)
  · have hj' : j < ts.length := List.mem_range.mp hj
    refine ed_call (ea_cons (ed_fz 0 rfl) (ea_cons (ed_is (ed_map U (fun r => shL (rwS B2 r)) (fun r => sh (mkS (r.getD j 0) B2)) (Ei.is (ei_list (ed_fz 1 rfl)) (by rw [List.map_map]; rfl)) (by omega) fun r hr => ⟨[3], _, eg_name 3, by simp, ed_op (ed_fz 3 rfl) (ed_fz 2 rfl) (r2_ixL ?_)⟩) (show _ = shL (rwS B2 (colI U j)) from ?_)) ea_nil)) ⟨B1, B2, ts, colI U j, w1, w2, rfl, b1, b2, n1, ?_, hl, p1, p2, hw, rfl⟩
    · rw [Int.zero_add]
      have hjr : j < r.length := Nat.lt_of_lt_of_le hj' (n2 r hr).2
      rw [atI_nat' (by simpa [rwS] using hjr)]
      rw [getD_at hjr]; simp [rwS]
    · unfold shL rwS colI
      rw [List.map_map, List.map_map]
      rfl
    · intro t ht
      obtain ⟨r, hr, rfl⟩ := List.mem_map.mp ht
      have hjr : j < r.length := Nat.lt_of_lt_of_le hj' (n2 r hr).2
      rw [getD_at hjr]
      exact (n2 r hr).1 _ (List.getElem_mem hjr)
  · unfold rwS ledI
    rw [List.map_map, List.map_map]
    rfl

/-! ### machines: rows, signs, tables, need_machine, making -/
def GoodR (n : Nat) (ps : List (Int × Int)) : Prop := ps.length = n ∧ ∀ p ∈ ps, isSh (sh p) = true
def Sir : List D → D → Prop := fun ds d => ∃ (n : Nat) (ps : List (Int × Int)), ds = [shL ps, .int n] ∧ GoodR n ps ∧ n ≤ 15 ∧ d = .bl true
theorem all_true {α : Type} (xs : List α) : (xs.map fun _ => true).all id = true := by simp
theorem ok_is_row (T : Tx K mg a_WeighError a_Nought a_NoText a_NoRow a_NoMachine a_NoWord a_OtherSigns a_TooMany a_Machine a_NONE) (c_is_share : Cl P w K mg base CX0 2 "is_share" (spR K Sis)) : Cl P w K mg base CX0 3 "is_row" (spR K Sir) := by
  refine clR T.d_is_row sc_is_row (fun ds d h => by obtain ⟨a, b, rfl, _⟩ := h; rfl) fun f cdv A outer s H E hr => ?_
  refine ⟨_, (pss_one (ps_ret (pe_and (pe_callB call_isi (by rfl) T.n_isinstance bt_isinstance (pa_cons (pv 0) (pa_cons (pe_bltn (v := .ty "list") (by rfl) T.n_list bt_list rfl) pa_nil))) (pe_and (pe_cmpR (op_eqD hr.units) (pe_callB callLen (by rfl) T.n_len bt_len (pa_cons (pv 0) pa_nil)) (pv 1) (nomark _)) (pe_one (pe_callB (cr_all rfl) (by rfl) T.n_all bt_all (pa_cons (pe_lc rfl sc_is_row.nd (own := [("part", 2)]) (pi_list (pv 0)) (blkOk_by (by kernel_rfl)) (fun _ _ _ _ _ => (pg_name (i := 2) sc_is_row.nd rfl (by first | exact Or.inl rfl | exact Or.inr rfl))) (fun _ _ _ _ _ => pts_nil) (fun _ _ _ _ _ => (pcl c_is_share hr (by decide) rfl (pa_cons (pv 2) pa_nil)))) pa_nil))))))), fun ds d h => ?_⟩
  obtain ⟨n, ps, rfl, ⟨hn, hp⟩, hl, rfl⟩ := h
  have hl' : ((ps.map sh).length : Int) = (n : Int) := by rw [List.length_map, hn]
  refine sd_ret (ed_andT (ed_cb (ea_cons (ed_fz 0 rfl) (ea_cons (ed_ty _) ea_nil)) (rc_isi rfl (by decide +kernel))) (ed_andT (ed_is (ed_op (ed_cb (ea_cons (ed_fz 0 rfl) ea_nil) rc_lenL) (ed_fz 1 rfl) r2_eqI) (congrArg D.bl (decide_eq_true hl'))) ?_))
  refine ed_is (ed_cb (ea_cons (ed_is (ed_map ps sh (fun _ => .bl true) (ei_list (ed_fz 0 rfl)) (by omega) fun p hpm => ⟨[2], _, eg_name 2, by simp, ed_is (ed_call (ea_cons (ed_fz 2 rfl) ea_nil) ⟨sh p, rfl, ⟨_, rfl⟩, ?_, rfl⟩) (congrArg D.bl (hp p hpm))⟩) (show _ = D.lst ((ps.map fun _ => true).map D.bl) from ?_)) ea_nil) rc_all) (congrArg D.bl (all_true ps))
  · intro a b e
    cases e
    exact ⟨⟨_, rfl⟩, ⟨_, rfl⟩⟩
  · rw [List.map_map]; rfl
def SgOk (x : Str) : Prop := x.length ≤ 6 ∧ x.cps.toList.Pairwise (· < ·) ∧ ∀ c ∈ x.cps.toList, 97 ≤ c ∧ c ≤ 122
def Sas : List D → D → Prop := fun ds d => ∃ x : Str, ds = [.str x] ∧ SgOk x ∧ d = .bl true
theorem one_lt {c d : Nat} : (([c] : List Nat) < [d]) ↔ c < d := by
  constructor
  · intro h
    rcases List.cons_lt_cons_iff.mp h with h | ⟨_, h⟩
    · exact h
    · exact absurd h (List.not_lt_nil _)
  · exact fun h => List.cons_lt_cons_iff.mpr (.inl h)
theorem ok_are_signs (T : Tx K mg a_WeighError a_Nought a_NoText a_NoRow a_NoMachine a_NoWord a_OtherSigns a_TooMany a_Machine a_NONE) : Cl P w K mg base CX0 1 "are_signs" (spR K Sas) := by
  refine clR T.d_are_signs sc_are_signs (fun ds d h => by obtain ⟨a, rfl, _⟩ := h; rfl) fun f cdv A outer s H E hr => ?_
  refine ⟨_, (pss_cons (ps_if (PW.pt (pw_or (pt_not (pt_val (pe_callB call_isi (by rfl) T.n_isinstance bt_isinstance (pa_cons (pv 0) (pa_cons (pe_bltn (v := .ty "str") (by rfl) T.n_str bt_str rfl) pa_nil))))) (pw_or1 (pt_cmpR op_gt (pe_callB callLen (by rfl) T.n_len bt_len (pa_cons (pv 0) pa_nil)) (pe_globI rfl T.m_MOST_SIGNS) (nomark _)))))
  (pss_one (ps_ret pe_bl))
  pss_nil)
  (pss_cons (ps_set (i := 1) sc_are_signs.nd rfl (by first | exact Or.inl rfl | exact Or.inr rfl) pe_str)
  (pss_cons (ps_for PassesOwn.never rfl (pi_str (pv 0)) (pg_name (i := 2) sc_are_signs.nd rfl (by first | exact Or.inl rfl | exact Or.inr rfl))
  (pss_cons (ps_if (PW.pt (pw_or (pt_not (pt_chain opLe opLe pe_str (pv 2) pe_str)) (pw_or1 (pt_cmpR opLe (pv 2) (pv 1) (nomark _)))))
  (pss_one (ps_ret pe_bl))
  pss_nil)
  (pss_one (ps_set (i := 1) sc_are_signs.nd rfl (by first | exact Or.inl rfl | exact Or.inr rfl) (pv 2)))))
  (pss_one (ps_ret pe_bl))))), fun ds d h => ?_⟩
  obtain ⟨x, rfl, ⟨h1, h2, h3⟩, rfl⟩ := h
  refine sd_seq (sd_ifF (et_orF (et_nF (et_B (ed_cb (ea_cons (ed_fz 0 rfl) (ea_cons (ed_ty _) ea_nil)) (rc_isi rfl (by decide +kernel))))) (et_is (et_test (ed_op (ed_cb (ea_cons (ed_fz 0 rfl) ea_nil) (rc_lenS (by omega))) (ed_int 6) r2_gt)) (decide_eq_false (by omega)))) sd_next) ?_
  refine sd_seq (Γ1 := [.fz (.str x), .fz (.str ""), .no]) (sd_set 1 (ed_str _)) ?_
  refine sd_seq (Γ1 := [.fz (.str x), .no, .no]) (sd_for (ei_str (ed_fz 0 rfl)) ?_) (sd_ret (ed_bl true))
  suffices main : ∀ (l : List Nat) (b : Str), l.Pairwise (· < ·) → (∀ c ∈ l, 97 ≤ c ∧ c ≤ 122) → (∀ c ∈ l, b.cps.toList < [c]) → LoopF K E0 _ _ (l.map fun c => D.str ⟨#[c]⟩) [.fz (.str x), .fz (.str b), .no] (.nx [.fz (.str x), .no, .no]) by
    exact main x.cps.toList "" h2 h3 (fun c _ => by show ([] : List Nat) < [c]; simp)
  intro l
  induction l with
  | nil => exact fun b _ _ _ => .le (.cons (.inr rfl) (.cons (.inl rfl) (.cons (.inl rfl) .nil))) .done
  | cons c l ih =>
    intro b q1 q2 q3
    obtain ⟨q4, q5⟩ := List.pairwise_cons.mp q1
    obtain ⟨r1, r2⟩ := q2 c List.mem_cons_self
    have z := ih ⟨#[c]⟩ q5 (fun y hy => q2 y (List.mem_cons_of_mem _ hy)) fun y hy => by show ([c] : List Nat) < [y]; exact one_lt.mpr (q4 y hy)
    have e1 : (!decide (([c] : List Nat) < ("a" : Str).cps.toList)) = true := by
      show (!decide (([c] : List Nat) < [97])) = true
      rw [decide_eq_false (fun h => by have := one_lt.mp h; omega)]; rfl
    have e2 : (!decide ((("z" : Str).cps.toList) < [c])) = true := by
      show (!decide (([122] : List Nat) < [c])) = true
      rw [decide_eq_false (fun h => by have := one_lt.mp h; omega)]; rfl
    have e3 : (!decide ((b.cps.toList) < [c])) = false := by
      rw [decide_eq_true (q3 c List.mem_cons_self)]; rfl
    refine .step (js := [2]) (Γ1 := [.fz (.str x), .fz (.str b), .fz (.str ⟨#[c]⟩)]) (eg_name 2) ?_ z
    refine Sd.lpLe (Γ1 := [.fz (.str x), .fz (.str ⟨#[c]⟩), .fz (.str ⟨#[c]⟩)]) (Sd.toLp (sd_seq (sd_ifF (et_orF (et_nF (et_B (ed_is (ed_chain (ed_str _) (ed_fz 2 rfl) r2_leS fun _ => ⟨ed_str _, r2_leS⟩) (congrArg D.bl (by rw [e1, e2]; rfl))))) (et_is (et_test (ed_op (ed_fz 2 rfl) (ed_fz 1 rfl) r2_leS)) e3)) sd_next) (sd_set 1 (ed_fz 2 rfl)))) ?_
    exact .cons (.inr rfl) (.cons (.inr rfl) (.cons (.inl rfl) .nil))
def GoodT (n : Nat) (U : List (List (Int × Int))) : Prop := U.length = n ∧ ∀ r ∈ U, GoodR n r
def Sit : List D → D → Prop := fun ds d => ∃ (n : Nat) (U : List (List (Int × Int))), ds = [tabL U, .int n] ∧ GoodT n U ∧ n ≤ 15 ∧ d = .bl true
theorem ok_is_table (T : Tx K mg a_WeighError a_Nought a_NoText a_NoRow a_NoMachine a_NoWord a_OtherSigns a_TooMany a_Machine a_NONE) (c_is_row : Cl P w K mg base CX0 3 "is_row" (spR K Sir)) : Cl P w K mg base CX0 4 "is_table" (spR K Sit) := by
  refine clR T.d_is_table sc_is_table (fun ds d h => by obtain ⟨a, b, rfl, _⟩ := h; rfl) fun f cdv A outer s H E hr => ?_
  refine ⟨_, (pss_one (ps_ret (pe_and (pe_callB call_isi (by rfl) T.n_isinstance bt_isinstance (pa_cons (pv 0) (pa_cons (pe_bltn (v := .ty "list") (by rfl) T.n_list bt_list rfl) pa_nil))) (pe_and (pe_cmpR (op_eqD hr.units) (pe_callB callLen (by rfl) T.n_len bt_len (pa_cons (pv 0) pa_nil)) (pv 1) (nomark _)) (pe_one (pe_callB (cr_all rfl) (by rfl) T.n_all bt_all (pa_cons (pe_lc rfl sc_is_table.nd (own := [("row", 2)]) (pi_list (pv 0)) (blkOk_by (by kernel_rfl)) (fun _ _ _ _ _ => (pg_name (i := 2) sc_is_table.nd rfl (by first | exact Or.inl rfl | exact Or.inr rfl))) (fun _ _ _ _ _ => pts_nil) (fun _ _ _ _ _ => (pcl c_is_row hr (by decide) rfl (pa_cons (pv 2) (pa_cons (pv 1) pa_nil))))) pa_nil))))))), fun ds d h => ?_⟩
  obtain ⟨n, U, rfl, ⟨hn, hp⟩, hl, rfl⟩ := h
  have hl' : ((U.map shL).length : Int) = (n : Int) := by rw [List.length_map, hn]
  refine sd_ret (ed_andT (ed_cb (ea_cons (ed_fz 0 rfl) (ea_cons (ed_ty _) ea_nil)) (rc_isi rfl (by decide +kernel))) (ed_andT (ed_is (ed_op (ed_cb (ea_cons (ed_fz 0 rfl) ea_nil) rc_lenL) (ed_fz 1 rfl) r2_eqI) (congrArg D.bl (decide_eq_true hl'))) ?_))
  refine ed_is (ed_cb (ea_cons (ed_is (ed_map U shL (fun _ => .bl true) (ei_list (ed_fz 0 rfl)) (by omega) fun r hr => ⟨[2], _, eg_name 2, by simp, ed_call (ea_cons (ed_fz 2 rfl) (ea_cons (ed_fz 1 rfl) ea_nil)) ⟨n, r, rfl, hp r hr, hl, rfl⟩⟩) (show _ = D.lst ((U.map fun _ => true).map D.bl) from ?_)) ea_nil) rc_all) (congrArg D.bl (all_true U))
  rw [List.map_map]; rfl
/-- what makes a machine -/
structure GoodM (x : Str) (b : List (Int × Int)) (m : List (List (List (Int × Int)))) (e : List (Int × Int)) : Prop where
  sg : SgOk x
  few : b.length ≤ 12
  gb : GoodR b.length b
  ml : m.length = x.length
  gm : ∀ U ∈ m, GoodT b.length U
  ge : GoodR b.length e
def mcA (x : Str) (b : List (Int × Int)) (m : List (List (List (Int × Int)))) (e : List (Int × Int)) : List D := [.str x, shL b, .lst (m.map tabL), shL e]
def mcF (x : Str) (b : List (Int × Int)) (m : List (List (List (Int × Int)))) (e : List (Int × Int)) : List (Str × D) := [("signs", .str x), ("begins", shL b), ("moves", .lst (m.map tabL)), ("ends", shL e)]
def Snm : List D → D → Prop := fun ds d => ∃ x b m e, ds = mcA x b m e ∧ GoodM x b m e ∧ d = .non
theorem ok_need (T : Tx K mg a_WeighError a_Nought a_NoText a_NoRow a_NoMachine a_NoWord a_OtherSigns a_TooMany a_Machine a_NONE) (c_are_signs : Cl P w K mg base CX0 1 "are_signs" (spR K Sas)) (c_is_row : Cl P w K mg base CX0 3 "is_row" (spR K Sir)) (c_is_table : Cl P w K mg base CX0 4 "is_table" (spR K Sit)) :
    Cl P w K mg base (L2.CX P w) 5 "need_machine" (spX K Snm fun _ _ => False) := by
  refine clXN T.d_need_machine sc_need_machine (fun ds d h => by obtain ⟨x, b, m, e, rfl, _⟩ := h; rfl) (fun _ _ h => h.elim) fun f cdv A outer s H E hr => ?_
  refine ⟨_, (pss_cons (ps_if (PW.pt (pw_or (pt_not (pt_val (pcl c_are_signs hr (by decide) rfl (pa_cons (pv 0) pa_nil)))) (pw_or (pt_not (pt_val (pe_callB call_isi (by rfl) T.n_isinstance bt_isinstance (pa_cons (pv 1) (pa_cons (pe_bltn (v := .ty "list") (by rfl) T.n_list bt_list rfl) pa_nil))))) (pw_or1 (pt_not (pt_val (pcl c_is_row hr (by decide) rfl (pa_cons (pv 1) (pa_cons (pe_callB callLen (by rfl) T.n_len bt_len (pa_cons (pv 1) pa_nil)) pa_nil)))))))))
  (pss_one (ps_raise rfl (takes_of rfl rfl rfl rfl) (pmk_own PySem.F.excBase_ValueError T.x_NoMachine T.m_NoMachine T.k_NoMachine (raises_own T.b_NoMachine T.t_NoMachine) rfl)))
  pss_nil)
  (pss_cons (ps_set (i := 4) sc_need_machine.nd rfl (by first | exact Or.inl rfl | exact Or.inr rfl) (pe_callB callLen (by rfl) T.n_len bt_len (pa_cons (pv 1) pa_nil)))
  (pss_cons (ps_if (PW.pt (pw_or (pt_not (pt_val (pe_callB call_isi (by rfl) T.n_isinstance bt_isinstance (pa_cons (pv 2) (pa_cons (pe_bltn (v := .ty "list") (by rfl) T.n_list bt_list rfl) pa_nil))))) (pw_or (pt_cmpR (op_neD hr.units) (pe_callB callLen (by rfl) T.n_len bt_len (pa_cons (pv 2) pa_nil)) (pe_callB callLen (by rfl) T.n_len bt_len (pa_cons (pv 0) pa_nil)) (nomark _)) (pw_or1 (pt_not (pt_val (pe_callB (cr_all rfl) (by rfl) T.n_all bt_all (pa_cons (pe_lc rfl sc_need_machine.nd (own := [("one", 5)]) (pi_list (pv 2)) (blkOk_by (by kernel_rfl)) (fun _ _ _ _ _ => (pg_name (i := 5) sc_need_machine.nd rfl (by first | exact Or.inl rfl | exact Or.inr rfl))) (fun _ _ _ _ _ => pts_nil) (fun _ _ _ _ _ => (pcl c_is_table hr (by decide) rfl (pa_cons (pv 5) (pa_cons (pv 4) pa_nil))))) pa_nil))))))))
  (pss_one (ps_raise rfl (takes_of rfl rfl rfl rfl) (pmk_own PySem.F.excBase_ValueError T.x_NoMachine T.m_NoMachine T.k_NoMachine (raises_own T.b_NoMachine T.t_NoMachine) rfl)))
  pss_nil)
  (pss_cons (ps_if (pt_not (pt_val (pcl c_is_row hr (by decide) rfl (pa_cons (pv 3) (pa_cons (pv 4) pa_nil)))))
  (pss_one (ps_raise rfl (takes_of rfl rfl rfl rfl) (pmk_own PySem.F.excBase_ValueError T.x_NoMachine T.m_NoMachine T.k_NoMachine (raises_own T.b_NoMachine T.t_NoMachine) rfl)))
  pss_nil)
  (pss_one (ps_if (pt_cmpR op_gt (pv 4) (pe_globI rfl T.m_MOST_ROOMS) (nomark _))
  (pss_one (ps_raise rfl (takes_of rfl rfl rfl rfl) (pmk_own PySem.F.excBase_ValueError T.x_TooMany T.m_TooMany T.k_TooMany (raises_own T.b_TooMany T.t_TooMany) rfl)))
  pss_nil)))))), fun ds d h => ?_, fun _ _ h => h.elim⟩
  obtain ⟨x, b, m, e, rfl, G, rfl⟩ := h
  refine ⟨rfl, [.fz (.str x), .fz (shL b), .fz (.lst (m.map tabL)), .fz (shL e), .fz (.int (b.length : Nat)), .no], ?_⟩
  have nb : (((b.map sh).length : Nat) : Int) = (b.length : Nat) := by rw [List.length_map]
  refine sd_seq (sd_ifF (et_orF (et_nF (et_B (ed_call (ea_cons (ed_fz 0 rfl) ea_nil) ⟨x, rfl, G.sg, rfl⟩))) (et_orF (et_nF (et_B (ed_cb (ea_cons (ed_fz 1 rfl) (ea_cons (ed_ty _) ea_nil)) (rc_isi rfl (by decide +kernel))))) (et_nF (et_B (ed_call (ea_cons (ed_fz 1 rfl) (ea_cons (ed_cb (ea_cons (ed_fz 1 rfl) ea_nil) rc_lenL) ea_nil)) ⟨b.length, b, by rw [nb], G.gb, by have := G.few; omega, rfl⟩))))) sd_next) ?_
  refine sd_seq (Γ1 := [.fz (.str x), .fz (shL b), .fz (.lst (m.map tabL)), .fz (shL e), .fz (.int (b.length : Nat)), .no]) (sd_set 4 (ed_is (ed_cb (ea_cons (ed_fz 1 rfl) ea_nil) rc_lenL) (by rw [nb] <;> rfl))) ?_
  have gx : x.length ≤ 100000 := by have := G.sg.1; omega
  have em : (!decide ((((m.map tabL).length : Nat) : Int) = (x.length : Nat))) = false := by rw [List.length_map, G.ml, decide_eq_true rfl]; rfl
  refine sd_seq (sd_ifF (et_orF (et_nF (et_B (ed_cb (ea_cons (ed_fz 2 rfl) (ea_cons (ed_ty _) ea_nil)) (rc_isi rfl (by decide +kernel))))) (et_orF (et_is (et_test (ed_op (ed_cb (ea_cons (ed_fz 2 rfl) ea_nil) rc_lenL) (ed_cb (ea_cons (ed_fz 0 rfl) ea_nil) (rc_lenS gx)) r2_neI)) em) (et_nF (et_B (ed_is (ed_cb (ea_cons (ed_is (ed_map m tabL (fun _ => .bl true) (ei_list (ed_fz 2 rfl)) (by rw [G.ml]; exact gx) fun U hU => ⟨[5], _, eg_name 5, by simp, ed_call (ea_cons (ed_fz 5 rfl) (ea_cons (ed_fz 4 rfl) ea_nil)) ⟨b.length, U, rfl, G.gm U hU, by have := G.few; omega, rfl⟩⟩) (show _ = D.lst ((m.map fun _ => true).map D.bl) from ?_)) ea_nil) rc_all) (congrArg D.bl (all_true m))))))) sd_next) ?_
  · rw [List.map_map] <;> rfl
  refine sd_seq (sd_ifF (et_nF (et_B (ed_call (ea_cons (ed_fz 3 rfl) (ea_cons (ed_fz 4 rfl) ea_nil)) ⟨b.length, e, rfl, G.ge, by have := G.few; omega, rfl⟩))) sd_next) ?_
  exact sd_ifF (et_is (et_test (ed_op (ed_fz 4 rfl) (ed_int 12) r2_gt)) (decide_eq_false (by have := G.few; omega))) sd_next
theorem put4 (a b c d : D) : putD "ends" d (putD "moves" c (putD "begins" b (putD "signs" a []))) = ([("signs", a), ("begins", b), ("moves", c), ("ends", d)] : List (Str × D)) := by
  have h1 : ¬ (("signs" : Str) = "begins") := by decide +kernel
  have h2 : ¬ (("signs" : Str) = "moves") := by decide +kernel
  have h3 : ¬ (("signs" : Str) = "ends") := by decide +kernel
  have h4 : ¬ (("begins" : Str) = "moves") := by decide +kernel
  have h5 : ¬ (("begins" : Str) = "ends") := by decide +kernel
  have h6 : ¬ (("moves" : Str) = "ends") := by decide +kernel
  simp only [putD, if_neg h1, if_neg h2, if_neg h3, if_neg h4, if_neg h5, if_neg h6]
def Smc (C : Addr) : List D → D → Prop := fun ds d => ∃ x b m e, ds = mcA x b m e ∧ GoodM x b m e ∧ d = .ins C (mcF x b m e)

/-! ### machines of anything: good or refused -/
def Kd (d : D) : Prop := ∃ U, tyD d = some U
def Pt (d : D) : Prop := Kd d ∧ ∀ a b, d = .tup [a, b] → Kd a ∧ Kd b
def RowK (d : D) : Prop := Kd d ∧ ∀ es, d = .lst es → es.length ≤ 1000 ∧ ∀ e ∈ es, Pt e
def TabK (d : D) : Prop := Kd d ∧ ∀ es, d = .lst es → es.length ≤ 1000 ∧ ∀ e ∈ es, RowK e
def MovK (d : D) : Prop := Kd d ∧ ∀ es, d = .lst es → es.length ≤ 1000 ∧ ∀ e ∈ es, TabK e
def isRow (n : Nat) : D → Bool
  | .lst es => decide (es.length = n) && es.all isSh
  | _ => false
def isTab (n : Nat) : D → Bool
  | .lst es => decide (es.length = n) && es.all (isRow n)
  | _ => false
def isLs : D → Bool
  | .lst _ => true
  | _ => false
def lenD : D → Nat
  | .lst es => es.length
  | _ => 0
theorem isi_lst {K : PySem.W.Frag} {d : D} (h : Kd d) : RcD K (rIsi K) [d, .ty "list"] (.bl (isLs d)) := by
  obtain ⟨U, hU⟩ := h
  refine rc_isi hU ?_
  cases d <;> first | (cases hU; done) | (cases hU; simp only [isLs]; decide +kernel)
def isSt : D → Bool
  | .str _ => true
  | _ => false
theorem isi_str {K : PySem.W.Frag} {d : D} (h : Kd d) {b : Bool} (hb : isSt d = b) : RcD K (rIsi K) [d, .ty "str"] (.bl b) := by
  obtain ⟨U, hU⟩ := h
  refine rc_isi hU ?_
  subst hb
  cases d <;> first | (cases hU; done) | (cases hU; simp only [isSt]; decide +kernel)
def SirG : List D → D → Prop := fun ds d => ∃ (x : D) (n : Nat), ds = [x, .int n] ∧ RowK x ∧ d = .bl (isRow n x)
theorem ok_is_rowG (T : Tx K mg a_WeighError a_Nought a_NoText a_NoRow a_NoMachine a_NoWord a_OtherSigns a_TooMany a_Machine a_NONE) (c_is_share : Cl P w K mg base CX0 2 "is_share" (spR K Sis)) : Cl P w K mg base CX0 3 "is_row" (spR K SirG) := by
  refine clR T.d_is_row sc_is_row (fun ds d h => by obtain ⟨a, b, rfl, _⟩ := h; rfl) fun f cdv A outer s H E hr => ?_
  refine ⟨_, (pss_one (ps_ret (pe_and (pe_callB call_isi (by rfl) T.n_isinstance bt_isinstance (pa_cons (pv 0) (pa_cons (pe_bltn (v := .ty "list") (by rfl) T.n_list bt_list rfl) pa_nil))) (pe_and (pe_cmpR (op_eqD hr.units) (pe_callB callLen (by rfl) T.n_len bt_len (pa_cons (pv 0) pa_nil)) (pv 1) (nomark _)) (pe_one (pe_callB (cr_all rfl) (by rfl) T.n_all bt_all (pa_cons (pe_lc rfl sc_is_row.nd (own := [("part", 2)]) (pi_list (pv 0)) (blkOk_by (by kernel_rfl)) (fun _ _ _ _ _ => (pg_name (i := 2) sc_is_row.nd rfl (by first | exact Or.inl rfl | exact Or.inr rfl))) (fun _ _ _ _ _ => pts_nil) (fun _ _ _ _ _ => (pcl c_is_share hr (by decide) rfl (pa_cons (pv 2) pa_nil)))) pa_nil))))))), fun ds d h => ?_⟩
  obtain ⟨x, n, rfl, ⟨hk, hx⟩, rfl⟩ := h
  by_cases hl : ∃ es, x = .lst es
  · obtain ⟨es, rfl⟩ := hl
    obtain ⟨le, hp⟩ := hx es rfl
    refine sd_ret (ed_is (ed_andV (ed_cb (ea_cons (ed_fz 0 rfl) (ea_cons (ed_ty _) ea_nil)) (isi_lst hk)) fun _ => ed_andV (ed_op (ed_cb (ea_cons (ed_fz 0 rfl) ea_nil) rc_lenL) (ed_fz 1 rfl) r2_eqI) fun _ => ed_cb (ea_cons (ed_is (ed_map es id (fun e => .bl (isSh e)) (Ei.is (ei_list (ed_fz 0 rfl)) (List.map_id es).symm) (by omega) fun e he => ⟨[2], _, eg_name 2, by simp, ed_call (ea_cons (ed_fz 2 rfl) ea_nil) ⟨e, rfl, (hp e he).1, (hp e he).2, rfl⟩⟩) (show _ = D.lst ((es.map isSh).map D.bl) by rw [List.map_map]; rfl)) ea_nil) rc_all) ?_)
    show D.bl (true && (decide ((es.length : Int) = (n : Int)) && (es.map isSh).all id)) = D.bl (decide (es.length = n) && es.all isSh)
    rw [Bool.true_and, List.all_map]
    congr 2
    exact decide_eq_decide.mpr (by omega)
  · have e1 : isLs x = false := by cases x <;> first | rfl | exact absurd ⟨_, rfl⟩ hl
    have e2 : isRow n x = false := by cases x <;> first | rfl | exact absurd ⟨_, rfl⟩ hl
    rw [e2]
    refine sd_ret (ed_andF (ed_is (ed_cb (ea_cons (ed_fz 0 rfl) (ea_cons (ed_ty _) ea_nil)) (isi_lst hk)) (congrArg D.bl e1)))
def SitG : List D → D → Prop := fun ds d => ∃ (x : D) (n : Nat), ds = [x, .int n] ∧ TabK x ∧ d = .bl (isTab n x)
theorem ok_is_tableG (T : Tx K mg a_WeighError a_Nought a_NoText a_NoRow a_NoMachine a_NoWord a_OtherSigns a_TooMany a_Machine a_NONE) (c_is_row : Cl P w K mg base CX0 3 "is_row" (spR K SirG)) : Cl P w K mg base CX0 4 "is_table" (spR K SitG) := by
  refine clR T.d_is_table sc_is_table (fun ds d h => by obtain ⟨a, b, rfl, _⟩ := h; rfl) fun f cdv A outer s H E hr => ?_
  refine ⟨_, (pss_one (ps_ret (pe_and (pe_callB call_isi (by rfl) T.n_isinstance bt_isinstance (pa_cons (pv 0) (pa_cons (pe_bltn (v := .ty "list") (by rfl) T.n_list bt_list rfl) pa_nil))) (pe_and (pe_cmpR (op_eqD hr.units) (pe_callB callLen (by rfl) T.n_len bt_len (pa_cons (pv 0) pa_nil)) (pv 1) (nomark _)) (pe_one (pe_callB (cr_all rfl) (by rfl) T.n_all bt_all (pa_cons (pe_lc rfl sc_is_table.nd (own := [("row", 2)]) (pi_list (pv 0)) (blkOk_by (by kernel_rfl)) (fun _ _ _ _ _ => (pg_name (i := 2) sc_is_table.nd rfl (by first | exact Or.inl rfl | exact Or.inr rfl))) (fun _ _ _ _ _ => pts_nil) (fun _ _ _ _ _ => (pcl c_is_row hr (by decide) rfl (pa_cons (pv 2) (pa_cons (pv 1) pa_nil))))) pa_nil))))))), fun ds d h => ?_⟩
  obtain ⟨x, n, rfl, ⟨hk, hx⟩, rfl⟩ := h
  by_cases hl : ∃ es, x = .lst es
  · obtain ⟨es, rfl⟩ := hl
    obtain ⟨le, hp⟩ := hx es rfl
    refine sd_ret (ed_is (ed_andV (ed_cb (ea_cons (ed_fz 0 rfl) (ea_cons (ed_ty _) ea_nil)) (isi_lst hk)) fun _ => ed_andV (ed_op (ed_cb (ea_cons (ed_fz 0 rfl) ea_nil) rc_lenL) (ed_fz 1 rfl) r2_eqI) fun _ => ed_cb (ea_cons (ed_is (ed_map es id (fun e => .bl (isRow n e)) (Ei.is (ei_list (ed_fz 0 rfl)) (List.map_id es).symm) (by omega) fun e he => ⟨[2], _, eg_name 2, by simp, ed_call (ea_cons (ed_fz 2 rfl) (ea_cons (ed_fz 1 rfl) ea_nil)) ⟨e, n, rfl, hp e he, rfl⟩⟩) (show _ = D.lst ((es.map (isRow n)).map D.bl) by rw [List.map_map]; rfl)) ea_nil) rc_all) ?_)
    show D.bl (true && (decide ((es.length : Int) = (n : Int)) && (es.map (isRow n)).all id)) = D.bl (decide (es.length = n) && es.all (isRow n))
    rw [Bool.true_and, List.all_map]
    congr 2
    exact decide_eq_decide.mpr (by omega)
  · have e1 : isLs x = false := by cases x <;> first | rfl | exact absurd ⟨_, rfl⟩ hl
    have e2 : isTab n x = false := by cases x <;> first | rfl | exact absurd ⟨_, rfl⟩ hl
    rw [e2]
    refine sd_ret (ed_andF (ed_is (ed_cb (ea_cons (ed_fz 0 rfl) (ea_cons (ed_ty _) ea_nil)) (isi_lst hk)) (congrArg D.bl e1)))
instance (x : Str) : Decidable (SgOk x) := inferInstanceAs (Decidable (_ ∧ _ ∧ _))
def isSg : D → Bool
  | .str x => decide (SgOk x)
  | _ => false
def SgK (d : D) : Prop := Kd d ∧ ∀ x, d = .str x → x.length ≤ 1000
def SasG : List D → D → Prop := fun ds d => ∃ x : D, ds = [x] ∧ SgK x ∧ d = .bl (isSg x)
theorem one_le {c d : Nat} : (!decide (([d] : List Nat) < [c])) = decide (c ≤ d) := by
  by_cases h : d < c
  · rw [decide_eq_true (one_lt.mpr h), decide_eq_false (by omega)]; rfl
  · rw [decide_eq_false (fun z => h (one_lt.mp z)), decide_eq_true (by omega)]; rfl
theorem ok_are_signsG (T : Tx K mg a_WeighError a_Nought a_NoText a_NoRow a_NoMachine a_NoWord a_OtherSigns a_TooMany a_Machine a_NONE) : Cl P w K mg base CX0 1 "are_signs" (spR K SasG) := by
  refine clR T.d_are_signs sc_are_signs (fun ds d h => by obtain ⟨a, rfl, _⟩ := h; rfl) fun f cdv A outer s H E hr => ?_
  refine ⟨_, (pss_cons (ps_if (PW.pt (pw_or (pt_not (pt_val (pe_callB call_isi (by rfl) T.n_isinstance bt_isinstance (pa_cons (pv 0) (pa_cons (pe_bltn (v := .ty "str") (by rfl) T.n_str bt_str rfl) pa_nil))))) (pw_or1 (pt_cmpR op_gt (pe_callB callLen (by rfl) T.n_len bt_len (pa_cons (pv 0) pa_nil)) (pe_globI rfl T.m_MOST_SIGNS) (nomark _)))))
  (pss_one (ps_ret pe_bl))
  pss_nil)
  (pss_cons (ps_set (i := 1) sc_are_signs.nd rfl (by first | exact Or.inl rfl | exact Or.inr rfl) pe_str)
  (pss_cons (ps_for PassesOwn.never rfl (pi_str (pv 0)) (pg_name (i := 2) sc_are_signs.nd rfl (by first | exact Or.inl rfl | exact Or.inr rfl))
  (pss_cons (ps_if (PW.pt (pw_or (pt_not (pt_chain opLe opLe pe_str (pv 2) pe_str)) (pw_or1 (pt_cmpR opLe (pv 2) (pv 1) (nomark _)))))
  (pss_one (ps_ret pe_bl))
  pss_nil)
  (pss_one (ps_set (i := 1) sc_are_signs.nd rfl (by first | exact Or.inl rfl | exact Or.inr rfl) (pv 2)))))
  (pss_one (ps_ret pe_bl))))), fun ds d h => ?_⟩
  obtain ⟨x, rfl, ⟨hk, hx⟩, rfl⟩ := h
  by_cases hs : ∃ z, x = .str z
  · obtain ⟨z, rfl⟩ := hs
    have lz := hx z rfl
    have len : Ed K (tCB (rLenA K) (tCons (tVar 0) tNil)) [.fz (.str z), .no, .no] (.int (z.length : Nat)) := ed_cb (ea_cons (ed_fz 0 rfl) ea_nil) (rc_lenS (by omega))
    have iss : Et K (tNot (tB (tCB (rIsi K) (tCons (tVar 0) (tCons (tC (.ty "str")) tNil))))) [.fz (.str z), .no, .no] false := et_nF (et_B (ed_cb (ea_cons (ed_fz 0 rfl) (ea_cons (ed_ty _) ea_nil)) (isi_str hk rfl)))
    by_cases h6 : z.length ≤ 6
    · refine sd_seq (sd_ifF (et_orF iss (et_is (et_test (ed_op len (ed_int 6) r2_gt)) (decide_eq_false (by omega)))) sd_next) ?_
      refine sd_seq (Γ1 := [.fz (.str z), .fz (.str ""), .no]) (sd_set 1 (ed_str _)) ?_
      have e0 : isSg (.str z) = decide (z.cps.toList.Pairwise (· < ·) ∧ ∀ c ∈ z.cps.toList, 97 ≤ c ∧ c ≤ 122) := decide_eq_decide.mpr ⟨fun q => q.2, fun q => ⟨h6, q⟩⟩
      rw [e0]
      have step : ∀ (c : Nat) (b : Str) {v : Bool}, (!(decide (97 ≤ c) && decide (c ≤ 122)) || !decide (b.cps.toList < [c])) = v → Et K (tOr (tNot (tTest (tChain rLeA rLeA (tC (.str "a")) (tVar 2) (tC (.str "z"))))) (tTest (tOp rLeA (tVar 2) (tVar 1)))) [.fz (.str z), .fz (.str b), .fz (.str ⟨#[c]⟩)] v := fun c b {v} hv =>
        et_is (et_or (et_not (et_is (et_chain (ed_str _) (ed_fz 2 rfl) r2_leS fun _ => ⟨ed_str _, r2_leS⟩) (show _ = (decide (97 ≤ c) && decide (c ≤ 122)) from ?_))) fun _ => et_test (ed_op (ed_fz 2 rfl) (ed_fz 1 rfl) r2_leS)) hv
      rotate_left
      · show ((!decide (([c] : List Nat) < [97])) && (!decide (([122] : List Nat) < [c]))) = _
        rw [one_le, one_le]
      suffices main : ∀ (l : List Nat) (b : Str), (∀ c ∈ l, b.cps.toList < [c]) ∨ (∃ c0, b = ⟨#[c0]⟩) → (((l.Pairwise (· < ·) ∧ (∀ c ∈ l, 97 ≤ c ∧ c ≤ 122) ∧ ∀ c ∈ l.head?, b.cps.toList < [c]) ∧ LoopF K E0 _ _ (l.map fun c => D.str ⟨#[c]⟩) [.fz (.str z), .fz (.str b), .no] (.nx [.fz (.str z), .no, .no])) ∨ (¬ (l.Pairwise (· < ·) ∧ (∀ c ∈ l, 97 ≤ c ∧ c ≤ 122) ∧ ∀ c ∈ l.head?, b.cps.toList < [c]) ∧ LoopF K E0 _ _ (l.map fun c => D.str ⟨#[c]⟩) [.fz (.str z), .fz (.str b), .no] (.rt (.bl false)))) by
        rcases main z.cps.toList "" (.inl fun c _ => by show ([] : List Nat) < [c]; simp) with ⟨⟨a1, a2, _⟩, lp⟩ | ⟨na, lp⟩
        · rw [decide_eq_true ⟨a1, a2⟩]
          exact sd_seq (sd_for (ei_str (ed_fz 0 rfl)) lp) (sd_ret (ed_bl true))
        · rw [decide_eq_false (fun q => na ⟨q.1, q.2, fun c _ => by show ([] : List Nat) < [c]; simp⟩)]
          exact sd_stop (sd_for (ei_str (ed_fz 0 rfl)) lp) rfl
      intro l
      induction l with
      | nil => exact fun b _ => .inl ⟨⟨List.Pairwise.nil, (fun c hc => nomatch hc), (fun c hc => nomatch hc)⟩, .le (.cons (.inr rfl) (.cons (.inl rfl) (.cons (.inl rfl) .nil))) .done⟩
      | cons c l ih =>
        intro b hb
        by_cases h1 : (97 ≤ c ∧ c ≤ 122) ∧ b.cps.toList < [c]
        · have tv := step c b (v := false) (by rw [decide_eq_true h1.1.1, decide_eq_true h1.1.2, decide_eq_true h1.2]; rfl)
          have hd : ∀ y ∈ l.head?, ([c] : List Nat) < [y] ↔ c < y := fun y _ => one_lt
          rcases ih ⟨#[c]⟩ (.inr ⟨c, rfl⟩) with ⟨⟨a1, a2, a3⟩, lp⟩ | ⟨na, lp⟩
          · refine .inl ⟨⟨?_, fun y hy => ?_, fun y hy => ?_⟩, .step (js := [2]) (Γ1 := [.fz (.str z), .fz (.str b), .fz (.str ⟨#[c]⟩)]) (eg_name 2) (Sd.lpLe (Γ1 := [.fz (.str z), .fz (.str ⟨#[c]⟩), .fz (.str ⟨#[c]⟩)]) (Sd.toLp (sd_seq (sd_ifF tv sd_next) (sd_set 1 (ed_fz 2 rfl)))) (.cons (.inr rfl) (.cons (.inr rfl) (.cons (.inl rfl) .nil)))) lp⟩
            · refine List.Pairwise.cons (fun y hy => ?_) a1
              match l, hy with
              | x :: l', hy =>
                have cx : c < x := one_lt.mp (a3 x rfl)
                rcases List.mem_cons.mp hy with rfl | hy
                · exact cx
                · exact Nat.lt_trans cx ((List.pairwise_cons.mp a1).1 y hy)
            · rcases List.mem_cons.mp hy with rfl | hy
              · exact h1.1
              · exact a2 y hy
            · have : y = c := by simpa using hy.symm
              subst this
              exact h1.2
          · refine .inr ⟨fun q => na ⟨(List.pairwise_cons.mp q.1).2, fun y hy => q.2.1 y (List.mem_cons_of_mem _ hy), fun y hy => ?_⟩, .step (js := [2]) (Γ1 := [.fz (.str z), .fz (.str b), .fz (.str ⟨#[c]⟩)]) (eg_name 2) (Sd.lpLe (Γ1 := [.fz (.str z), .fz (.str ⟨#[c]⟩), .fz (.str ⟨#[c]⟩)]) (Sd.toLp (sd_seq (sd_ifF tv sd_next) (sd_set 1 (ed_fz 2 rfl)))) (.cons (.inr rfl) (.cons (.inr rfl) (.cons (.inl rfl) .nil)))) lp⟩
            have hm : y ∈ l := List.mem_of_mem_head? hy
            exact one_lt.mpr ((List.pairwise_cons.mp q.1).1 y hm)
        · have tv := step c b (v := true) (by
            by_cases a : 97 ≤ c
            · by_cases a' : c ≤ 122
              · rw [decide_eq_false (show ¬ b.cps.toList < [c] from fun q => h1 ⟨⟨a, a'⟩, q⟩)]; simp
              · rw [decide_eq_false a']; simp
            · rw [decide_eq_false a]; simp)
          exact .inr ⟨fun q => h1 ⟨q.2.1 c List.mem_cons_self, q.2.2 c rfl⟩, .out (js := [2]) (eg_name 2) (sd_stop (sd_ifT tv (sd_ret (ed_bl false))) rfl) rfl⟩
    · rw [show isSg (.str z) = false from decide_eq_false fun q => h6 q.1]
      exact sd_stop (sd_ifT (et_orF iss (et_is (et_test (ed_op len (ed_int 6) r2_gt)) (decide_eq_true (by omega)))) (sd_ret (ed_bl false))) rfl
  · have e1 : isSt x = false := by cases x <;> first | rfl | exact absurd ⟨_, rfl⟩ hs
    have e2 : isSg x = false := by cases x <;> first | rfl | exact absurd ⟨_, rfl⟩ hs
    rw [e2]
    exact sd_stop (sd_ifT (et_orT (et_nT (et_B (ed_cb (ea_cons (ed_fz 0 rfl) (ea_cons (ed_ty _) ea_nil)) (isi_str hk e1))))) (sd_ret (ed_bl false))) rfl

/-! ### need_machine, Machine: good or refused -/
def slen : D → Nat
  | .str x => x.length
  | _ => 0
def movOk (n k : Nat) : D → Bool
  | .lst es => decide (es.length = k) && es.all (isTab n)
  | _ => false
def good4 (s b m e : D) : Bool := isSg s && (isRow (lenD b) b && (movOk (lenD b) (slen s) m && isRow (lenD b) e))
structure M4 (ds : List D) (s b m e : D) : Prop where
  ds : ds = [s, b, m, e]
  s : SgK s
  b : RowK b
  m : MovK m
  e : RowK e
def TnmG (C1 C2 : Addr) : List D → Addr → Prop := fun ds c => ∃ s b m e, M4 ds s b m e ∧ ((good4 s b m e = false ∧ c = C1) ∨ (good4 s b m e = true ∧ 12 < lenD b ∧ c = C2))
theorem pt_sh (p : Int × Int) : Pt (sh p) := ⟨⟨_, rfl⟩, fun a b h => by cases h; exact ⟨⟨_, rfl⟩, _, rfl⟩⟩
theorem rowK_sh {ps : List (Int × Int)} (h : ps.length ≤ 1000) : RowK (shL ps) := ⟨⟨_, rfl⟩, fun es e => by
  cases e
  exact ⟨by rw [List.length_map]; exact h, fun d hd => by
    obtain ⟨p, _, rfl⟩ := List.mem_map.mp hd
    exact pt_sh p⟩⟩
theorem isRow_sh {n : Nat} {ps : List (Int × Int)} (h : GoodR n ps) : isRow n (shL ps) = true := by
  show (decide ((ps.map sh).length = n) && (ps.map sh).all isSh) = true
  rw [decide_eq_true (by rw [List.length_map]; exact h.1), Bool.true_and, List.all_map, List.all_eq_true]
  exact h.2
theorem tabK_sh {U : List (List (Int × Int))} (h : U.length ≤ 1000) (hr : ∀ r ∈ U, r.length ≤ 1000) : TabK (tabL U) := ⟨⟨_, rfl⟩, fun es e => by
  cases e
  exact ⟨by rw [List.length_map]; exact h, fun d hd => by
    obtain ⟨r, hr', rfl⟩ := List.mem_map.mp hd
    exact rowK_sh (hr r hr')⟩⟩
theorem isTab_sh {n : Nat} {U : List (List (Int × Int))} (h : GoodT n U) : isTab n (tabL U) = true := by
  show (decide ((U.map shL).length = n) && (U.map shL).all (isRow n)) = true
  rw [decide_eq_true (by rw [List.length_map]; exact h.1), Bool.true_and, List.all_map, List.all_eq_true]
  exact fun r hr => isRow_sh (h.2 r hr)
/-- what makes a machine but for the number of rooms -/
structure GoodW (x : Str) (b : List (Int × Int)) (m : List (List (List (Int × Int)))) (e : List (Int × Int)) : Prop where
  sg : SgOk x
  few : b.length ≤ 100
  gb : GoodR b.length b
  ml : m.length = x.length
  gm : ∀ U ∈ m, GoodT b.length U
  ge : GoodR b.length e
theorem GoodM.wide {x b m e} (G : GoodM x b m e) : GoodW x b m e := ⟨G.sg, by have := G.few; omega, G.gb, G.ml, G.gm, G.ge⟩
theorem GoodW.good {x b m e} (G : GoodW x b m e) : good4 (.str x) (shL b) (.lst (m.map tabL)) (shL e) = true := by
  have lb : lenD (shL b) = b.length := by show (b.map sh).length = _; rw [List.length_map]
  unfold good4
  rw [lb, isRow_sh G.gb, isRow_sh G.ge, show isSg (.str x) = true from decide_eq_true G.sg]
  show (true && (true && ((decide ((m.map tabL).length = x.length) && (m.map tabL).all (isTab b.length)) && true))) = true
  rw [decide_eq_true (by rw [List.length_map]; exact G.ml), Bool.true_and, Bool.true_and, Bool.true_and, Bool.and_true, List.all_map, List.all_eq_true]
  exact fun U hU => isTab_sh (G.gm U hU)
theorem GoodW.m4 {x b m e} (G : GoodW x b m e) : M4 (mcA x b m e) (.str x) (shL b) (.lst (m.map tabL)) (shL e) := by
  have x6 := G.sg.1
  have few := G.few
  refine ⟨rfl, ⟨⟨_, rfl⟩, fun y h => by cases h; omega⟩, rowK_sh (by omega), ⟨⟨_, rfl⟩, fun es h => ?_⟩, rowK_sh (by rw [G.ge.1]; omega)⟩
  cases h
  refine ⟨by rw [List.length_map, G.ml]; omega, fun d hd => ?_⟩
  obtain ⟨U, hU, rfl⟩ := List.mem_map.mp hd
  have g := G.gm U hU
  exact tabK_sh (by rw [g.1]; omega) fun r hr => by rw [(g.2 r hr).1]; omega
theorem nd_t1 {s' b m e : D} (sk : SgK s') (bk : RowK b) : Et K (tOr (tNot (tB (tCall (spR K SasG) [] E0 (tCons (tVar 0) tNil)))) (tOr (tNot (tB (tCB (rIsi K) (tCons (tVar 1) (tCons (tC (.ty "list")) tNil))))) (tNot (tB (tCall (spR K SirG) [] E0 (tCons (tVar 1) (tCons (tCB (rLenA K) (tCons (tVar 1) tNil)) tNil))))))) [.fz s', .fz b, .fz m, .fz e, .no, .no] (!(isSg s' && isRow (lenD b) b)) := by
  have a1 : Et K (tNot (tB (tCall (spR K SasG) [] E0 (tCons (tVar 0) tNil)))) [.fz s', .fz b, .fz m, .fz e, .no, .no] (!isSg s') := et_not (et_B (ed_call (ea_cons (ed_fz 0 rfl) ea_nil) ⟨s', rfl, sk, rfl⟩))
  have a2 : Et K (tNot (tB (tCB (rIsi K) (tCons (tVar 1) (tCons (tC (.ty "list")) tNil))))) [.fz s', .fz b, .fz m, .fz e, .no, .no] (!isLs b) := et_not (et_B (ed_cb (ea_cons (ed_fz 1 rfl) (ea_cons (ed_ty _) ea_nil)) (isi_lst bk.1)))
  cases hs1 : isSg s' with
  | false => rw [hs1] at a1; exact et_orT a1
  | true =>
    rw [hs1] at a1
    refine et_is (et_orF a1 (et_or a2 fun hb => ?_)) (b := !isLs b || !isRow (lenD b) b) ?_
    · have hb' : isLs b = true := by simpa using hb
      match b, hb' with
      | .lst es, _ => exact et_not (et_B (ed_call (ea_cons (ed_fz 1 rfl) (ea_cons (ed_cb (ea_cons (ed_fz 1 rfl) ea_nil) rc_lenL) ea_nil)) ⟨.lst es, es.length, rfl, bk, rfl⟩))
    · cases b <;> simp [isLs, isRow]
theorem nd_t3 {s' b m e : D} (ek : RowK e) : Et K (tNot (tB (tCall (spR K SirG) [] E0 (tCons (tVar 3) (tCons (tVar 4) tNil))))) [.fz s', .fz b, .fz m, .fz e, .fz (.int (lenD b : Nat)), .no] (!isRow (lenD b) e) := et_not (et_B (ed_call (ea_cons (ed_fz 3 rfl) (ea_cons (ed_fz 4 rfl) ea_nil)) ⟨e, lenD b, rfl, ek, rfl⟩))
theorem nd_t2 {s' b m e : D} (sk : SgK s') (mk : MovK m) : isSg s' = true → Et K (tOr (tNot (tB (tCB (rIsi K) (tCons (tVar 2) (tCons (tC (.ty "list")) tNil))))) (tOr (tTest (tOp (rNeD K) (tCB (rLenA K) (tCons (tVar 2) tNil)) (tCB (rLenA K) (tCons (tVar 0) tNil)))) (tNot (tB (tCB (rAll K) (tCons (tLc (iList K (tVar 2)) (gName 5) tYes (tCall (spR K SitG) [] E0 (tCons (tVar 5) (tCons (tVar 4) tNil))) [5]) tNil)))))) [.fz s', .fz b, .fz m, .fz e, .fz (.int (lenD b : Nat)), .no] (!movOk (lenD b) (slen s') m) := fun hs1 => by
  match s', hs1, sk with
  | .str x, _, sk =>
    have lx := sk.2 x rfl
    have a2 : Et K (tNot (tB (tCB (rIsi K) (tCons (tVar 2) (tCons (tC (.ty "list")) tNil))))) [.fz (.str x), .fz b, .fz m, .fz e, .fz (.int (lenD b : Nat)), .no] (!isLs m) := et_not (et_B (ed_cb (ea_cons (ed_fz 2 rfl) (ea_cons (ed_ty _) ea_nil)) (isi_lst mk.1)))
    by_cases hm : ∃ es, m = .lst es
    · obtain ⟨es, rfl⟩ := hm
      obtain ⟨le, hp⟩ := mk.2 es rfl
      refine et_is (et_orF a2 (et_or (et_test (ed_op (ed_cb (ea_cons (ed_fz 2 rfl) ea_nil) rc_lenL) (ed_cb (ea_cons (ed_fz 0 rfl) ea_nil) (rc_lenS (by omega))) r2_neI)) fun _ => et_not (et_B (ed_cb (ea_cons (ed_is (ed_map es id (fun e => .bl (isTab (lenD b) e)) (Ei.is (ei_list (ed_fz 2 rfl)) (List.map_id es).symm) (by omega) fun u hu => ⟨[5], _, eg_name 5, by simp, ed_call (ea_cons (ed_fz 5 rfl) (ea_cons (ed_fz 4 rfl) ea_nil)) ⟨u, lenD b, rfl, hp u hu, rfl⟩⟩) (show _ = D.lst ((es.map (isTab (lenD b))).map D.bl) by rw [List.map_map]; rfl)) ea_nil) rc_all)))) ?_
      show (!decide ((es.length : Int) = (x.length : Nat)) || !(es.map (isTab (lenD b))).all id) = !(decide (es.length = x.length) && es.all (isTab (lenD b)))
      rw [List.all_map, Bool.not_and, decide_eq_decide.mpr (show (es.length : Int) = (x.length : Nat) ↔ es.length = x.length by omega)]
      rfl
    · have e1 : isLs m = false := by cases m <;> first | rfl | exact absurd ⟨_, rfl⟩ hm
      have e2 : movOk (lenD b) (slen (.str x)) m = false := by cases m <;> first | rfl | exact absurd ⟨_, rfl⟩ hm
      rw [e1] at a2
      rw [e2]
      exact et_orT a2
theorem nd_set4 {s' b m e : D}  : ∀ {E : XK}, isRow (lenD b) b = true → Sd K E (tAsg (tCB (rLenA K) (tCons (tVar 1) tNil)) (gName 4)) [.fz s', .fz b, .fz m, .fz e, .no, .no] (.nx [.fz s', .fz b, .fz m, .fz e, .fz (.int (lenD b : Nat)), .no]) := fun {E} hb => by
  match b, hb with
  | .lst es, _ => exact sd_set 4 (ed_cb (ea_cons (ed_fz 1 rfl) ea_nil) rc_lenL)
theorem ok_needG (T : Tx K mg a_WeighError a_Nought a_NoText a_NoRow a_NoMachine a_NoWord a_OtherSigns a_TooMany a_Machine a_NONE) (c_are_signs : Cl P w K mg base CX0 1 "are_signs" (spR K SasG)) (c_is_row : Cl P w K mg base CX0 3 "is_row" (spR K SirG)) (c_is_table : Cl P w K mg base CX0 4 "is_table" (spR K SitG)) :
    Cl P w K mg base (L2.CX P w) 5 "need_machine" (spX K Snm (TnmG a_NoMachine a_TooMany)) := by
  refine clXN T.d_need_machine sc_need_machine (fun ds d h => by obtain ⟨x, b, m, e, rfl, _⟩ := h; rfl) (fun ds c h => by obtain ⟨_, _, _, _, h, _⟩ := h; rw [h.ds]; rfl) fun f cdv A outer s H E hr => ?_
  refine ⟨_, (pss_cons (ps_if (PW.pt (pw_or (pt_not (pt_val (pcl c_are_signs hr (by decide) rfl (pa_cons (pv 0) pa_nil)))) (pw_or (pt_not (pt_val (pe_callB call_isi (by rfl) T.n_isinstance bt_isinstance (pa_cons (pv 1) (pa_cons (pe_bltn (v := .ty "list") (by rfl) T.n_list bt_list rfl) pa_nil))))) (pw_or1 (pt_not (pt_val (pcl c_is_row hr (by decide) rfl (pa_cons (pv 1) (pa_cons (pe_callB callLen (by rfl) T.n_len bt_len (pa_cons (pv 1) pa_nil)) pa_nil)))))))))
  (pss_one (ps_raise rfl (takes_of rfl rfl rfl rfl) (pmk_own PySem.F.excBase_ValueError T.x_NoMachine T.m_NoMachine T.k_NoMachine (raises_own T.b_NoMachine T.t_NoMachine) rfl)))
  pss_nil)
  (pss_cons (ps_set (i := 4) sc_need_machine.nd rfl (by first | exact Or.inl rfl | exact Or.inr rfl) (pe_callB callLen (by rfl) T.n_len bt_len (pa_cons (pv 1) pa_nil)))
  (pss_cons (ps_if (PW.pt (pw_or (pt_not (pt_val (pe_callB call_isi (by rfl) T.n_isinstance bt_isinstance (pa_cons (pv 2) (pa_cons (pe_bltn (v := .ty "list") (by rfl) T.n_list bt_list rfl) pa_nil))))) (pw_or (pt_cmpR (op_neD hr.units) (pe_callB callLen (by rfl) T.n_len bt_len (pa_cons (pv 2) pa_nil)) (pe_callB callLen (by rfl) T.n_len bt_len (pa_cons (pv 0) pa_nil)) (nomark _)) (pw_or1 (pt_not (pt_val (pe_callB (cr_all rfl) (by rfl) T.n_all bt_all (pa_cons (pe_lc rfl sc_need_machine.nd (own := [("one", 5)]) (pi_list (pv 2)) (blkOk_by (by kernel_rfl)) (fun _ _ _ _ _ => (pg_name (i := 5) sc_need_machine.nd rfl (by first | exact Or.inl rfl | exact Or.inr rfl))) (fun _ _ _ _ _ => pts_nil) (fun _ _ _ _ _ => (pcl c_is_table hr (by decide) rfl (pa_cons (pv 5) (pa_cons (pv 4) pa_nil))))) pa_nil))))))))
  (pss_one (ps_raise rfl (takes_of rfl rfl rfl rfl) (pmk_own PySem.F.excBase_ValueError T.x_NoMachine T.m_NoMachine T.k_NoMachine (raises_own T.b_NoMachine T.t_NoMachine) rfl)))
  pss_nil)
  (pss_cons (ps_if (pt_not (pt_val (pcl c_is_row hr (by decide) rfl (pa_cons (pv 3) (pa_cons (pv 4) pa_nil)))))
  (pss_one (ps_raise rfl (takes_of rfl rfl rfl rfl) (pmk_own PySem.F.excBase_ValueError T.x_NoMachine T.m_NoMachine T.k_NoMachine (raises_own T.b_NoMachine T.t_NoMachine) rfl)))
  pss_nil)
  (pss_one (ps_if (pt_cmpR op_gt (pv 4) (pe_globI rfl T.m_MOST_ROOMS) (nomark _))
  (pss_one (ps_raise rfl (takes_of rfl rfl rfl rfl) (pmk_own PySem.F.excBase_ValueError T.x_TooMany T.m_TooMany T.k_TooMany (raises_own T.b_TooMany T.t_TooMany) rfl)))
  pss_nil)))))), fun ds d h => ?_, fun ds c h => ?_⟩
  all_goals first
    | (obtain ⟨x, b0, m0, e0, rfl, G0, rfl⟩ := h
       have g4 := G0.wide.good
       have l12 : lenD (shL b0) ≤ 12 := by show (b0.map sh).length ≤ 12; rw [List.length_map]; exact G0.few
       have M := G0.wide.m4
       rw [M.ds]
       generalize (D.str x) = s' at *
       generalize shL b0 = b at *
       generalize (D.lst (m0.map tabL)) = m at *
       generalize shL e0 = e at *)
    | (obtain ⟨s', b, m, e, M, hc⟩ := h
       have MM := M
       obtain ⟨rfl, _, _, _, _⟩ := MM)
  all_goals have sk := M.s
  all_goals have bk := M.b
  all_goals have mk := M.m
  all_goals have ek := M.e
  all_goals have t1 := nd_t1 (K := K) (m := m) (e := e) sk bk
  all_goals have t3 := nd_t3 (K := K) (s' := s') (b := b) (m := m) ek
  all_goals have t2 := nd_t2 (K := K) (b := b) (e := e) sk mk
  all_goals have set4 := fun {E : XK} => nd_set4 (K := K) (s' := s') (b := b) (m := m) (e := e) (E := E)
  · have a := (Bool.and_eq_true _ _).mp g4
    have a' := (Bool.and_eq_true _ _).mp a.2
    have a'' := (Bool.and_eq_true _ _).mp a'.2
    refine ⟨rfl, [.fz s', .fz b, .fz m, .fz e, .fz (.int (lenD b : Nat)), .no], ?_⟩
    refine sd_seq (sd_ifF (et_is t1 (by rw [a.1, a'.1]; rfl)) sd_next) (sd_seq (set4 a'.1) (sd_seq (sd_ifF (et_is (t2 a.1) (by rw [a''.1]; rfl)) sd_next) (sd_seq (sd_ifF (et_is t3 (by rw [a''.2]; rfl)) sd_next) ?_)))
    exact sd_ifF (et_is (et_test (ed_op (ed_fz 4 rfl) (ed_int 12) r2_gt)) (decide_eq_false (by omega))) sd_next
  · cases h1 : (isSg s' && isRow (lenD b) b) with
    | false =>
      rw [h1] at t1
      have hc' : c = a_NoMachine := by
        rcases hc with ⟨_, e⟩ | ⟨g, _⟩
        · exact e
        · have a := (Bool.and_eq_true _ _).mp g
          have a' := (Bool.and_eq_true _ _).mp a.2
          rw [a.1, a'.1] at h1
          cases h1
      subst hc'
      exact sd_stop (sd_ifT t1 sd_raise) rfl
    | true =>
      obtain ⟨h2, h3⟩ := (Bool.and_eq_true _ _).mp h1
      refine sd_seq (sd_ifF (et_is t1 (by rw [h1]; rfl)) sd_next) (sd_seq (set4 h3) ?_)
      cases h4 : movOk (lenD b) (slen s') m with
      | false =>
        have hc' : c = a_NoMachine := by
          rcases hc with ⟨_, e⟩ | ⟨g, _⟩
          · exact e
          · unfold good4 at g
            rw [h2, h3, h4] at g
            cases g
        subst hc'
        exact sd_stop (sd_ifT (et_is (t2 h2) (by rw [h4]; rfl)) sd_raise) rfl
      | true =>
        refine sd_seq (sd_ifF (et_is (t2 h2) (by rw [h4]; rfl)) sd_next) ?_
        cases h5 : isRow (lenD b) e with
        | false =>
          have hc' : c = a_NoMachine := by
            rcases hc with ⟨_, e⟩ | ⟨g, _⟩
            · exact e
            · unfold good4 at g
              rw [h2, h3, h4, h5] at g
              cases g
          subst hc'
          exact sd_stop (sd_ifT (et_is t3 (by rw [h5]; rfl)) sd_raise) rfl
        | true =>
          have hc' : 12 < lenD b ∧ c = a_TooMany := by
            rcases hc with ⟨g, _⟩ | ⟨_, e⟩
            · unfold good4 at g
              rw [h2, h3, h4, h5] at g
              cases g
            · exact e
          obtain ⟨l12, rfl⟩ := hc'
          refine sd_seq (sd_ifF (et_is t3 (by rw [h5]; rfl)) sd_next) ?_
          exact sd_ifT (et_is (et_test (ed_op (ed_fz 4 rfl) (ed_int 12) r2_gt)) (decide_eq_true (by omega))) sd_raise

theorem ok_word_NoMachine (T : Tx K mg a_WeighError a_Nought a_NoText a_NoRow a_NoMachine a_NoWord a_OtherSigns a_TooMany a_Machine a_NONE) : ClE P w K mg base 1 "_law_word_of" a_NoMachine (.tup [.str "refused", .str "machine"]) := by
  refine clE T.d__law_word_of sc_law_word_of rfl fun f cdv A outer s H p hz hf hr => ?_
  refine ⟨_, (pss_cons (ps_set (i := 1) sc_law_word_of.nd rfl (by first | exact Or.inl rfl | exact Or.inr rfl) (pe_op opAdd (pe_op opMul (pe_lst (pa_cons pe_str pa_nil)) (pe_callTy callInt (by rfl) T.n_int bt_int (pa_cons (pe_callB (call_isP (p := p) List.mem_cons_self T.ge_NoMachine hz hf) (by rfl) T.n_isinstance bt_isinstance (pa_cons (pv 0) (pa_cons (pe_glob (v := .ref a_Nought) rfl T.m_Nought rfl) pa_nil))) pa_nil))) (pe_op opMul (pe_lst (pa_cons pe_str pa_nil)) (pe_callTy callInt (by rfl) T.n_int bt_int (pa_cons (pe_callB (call_isP (p := p) List.mem_cons_self T.ge_NoMachine hz hf) (by rfl) T.n_isinstance bt_isinstance (pa_cons (pv 0) (pa_cons (pe_glob (v := .ref a_NoText) rfl T.m_NoText rfl) pa_nil))) pa_nil)))))
  (pss_cons (ps_set (i := 1) sc_law_word_of.nd rfl (by first | exact Or.inl rfl | exact Or.inr rfl) (pe_op opAdd (pe_op opAdd (pv 1) (pe_op opMul (pe_lst (pa_cons pe_str pa_nil)) (pe_callTy callInt (by rfl) T.n_int bt_int (pa_cons (pe_callB (call_isP (p := p) List.mem_cons_self T.ge_NoMachine hz hf) (by rfl) T.n_isinstance bt_isinstance (pa_cons (pv 0) (pa_cons (pe_glob (v := .ref a_NoRow) rfl T.m_NoRow rfl) pa_nil))) pa_nil)))) (pe_op opMul (pe_lst (pa_cons pe_str pa_nil)) (pe_callTy callInt (by rfl) T.n_int bt_int (pa_cons (pe_callB (call_isP (p := p) List.mem_cons_self T.ge_NoMachine hz hf) (by rfl) T.n_isinstance bt_isinstance (pa_cons (pv 0) (pa_cons (pe_glob (v := .ref a_NoMachine) rfl T.m_NoMachine rfl) pa_nil))) pa_nil)))))
  (pss_cons (ps_set (i := 1) sc_law_word_of.nd rfl (by first | exact Or.inl rfl | exact Or.inr rfl) (pe_op opAdd (pe_op opAdd (pv 1) (pe_op opMul (pe_lst (pa_cons pe_str pa_nil)) (pe_callTy callInt (by rfl) T.n_int bt_int (pa_cons (pe_callB (call_isP (p := p) List.mem_cons_self T.ge_NoMachine hz hf) (by rfl) T.n_isinstance bt_isinstance (pa_cons (pv 0) (pa_cons (pe_glob (v := .ref a_NoWord) rfl T.m_NoWord rfl) pa_nil))) pa_nil)))) (pe_op opMul (pe_lst (pa_cons pe_str pa_nil)) (pe_callTy callInt (by rfl) T.n_int bt_int (pa_cons (pe_callB (call_isP (p := p) List.mem_cons_self T.ge_NoMachine hz hf) (by rfl) T.n_isinstance bt_isinstance (pa_cons (pv 0) (pa_cons (pe_glob (v := .ref a_OtherSigns) rfl T.m_OtherSigns rfl) pa_nil))) pa_nil)))))
  (pss_cons (ps_set (i := 1) sc_law_word_of.nd rfl (by first | exact Or.inl rfl | exact Or.inr rfl) (pe_op opAdd (pe_op opAdd (pv 1) (pe_op opMul (pe_lst (pa_cons pe_str pa_nil)) (pe_callTy callInt (by rfl) T.n_int bt_int (pa_cons (pe_callB (call_isP (p := p) List.mem_cons_self T.ge_NoMachine hz hf) (by rfl) T.n_isinstance bt_isinstance (pa_cons (pv 0) (pa_cons (pe_glob (v := .ref a_TooMany) rfl T.m_TooMany rfl) pa_nil))) pa_nil)))) (pe_op opMul (pe_lst (pa_cons pe_str pa_nil)) (pe_callTy callInt (by rfl) T.n_int bt_int (pa_cons (pe_not (pe_callB (call_isP (p := p) List.mem_cons_self T.ge_NoMachine hz hf) (by rfl) T.n_isinstance bt_isinstance (pa_cons (pv 0) (pa_cons (pe_bltn (v := .ty "ValueError") (by rfl) T.n_ValueError bt_ValueError rfl) pa_nil)))) pa_nil)))))
  (pss_one (ps_ret (pe_tup (pa_cons pe_str (pa_cons (pe_join pe_str (pv 1)) pa_nil))))))))), ?_⟩
  have item : ∀ {Γ : Gam} {x : Str} {D' : Addr} {b : Bool}, Γ[0]? = some (.fz (.adr p.1)) → PySem.W.kitOne K (.ref a_NoMachine) (.ref D') = some b →
      Ed K (tOp rMulA (tLst (tCons (tC (.str x)) tNil)) (tCB rIntA (tCons (tCB (rIsE K a_NoMachine p.1) (tCons (tVar 0) (tCons (tC (.ref D')) tNil))) tNil))) Γ (.lst (if b then [.str x] else [])) := fun {Γ x D' b} h k =>
    ed_is (ed_op (ed_lst (ea_cons (ed_str _) ea_nil)) (ed_cb (ea_cons (ed_cb (ea_cons (ed_fz 0 h) (ea_cons (ed_adr _) ea_nil)) (rc_isP k)) ea_nil) rc_intB) (r2_mulL (Nat.le_of_ble_eq_true (by cases b <;> rfl)) (by cases b <;> decide))) (by cases b <;> rfl)
  have bare : ∀ {Γ : Gam}, Γ[0]? = some (.fz (.adr p.1)) →
      Ed K (tOp rMulA (tLst (tCons (tC (.str "bare")) tNil)) (tCB rIntA (tCons (tNotV (tCB (rIsE K a_NoMachine p.1) (tCons (tVar 0) (tCons (tC (.ty "ValueError")) tNil)))) tNil))) Γ (.lst []) := fun {Γ} h =>
    ed_is (ed_op (ed_lst (ea_cons (ed_str _) ea_nil)) (ed_cb (ea_cons (ed_notV (ed_cb (ea_cons (ed_fz 0 h) (ea_cons (ed_ty _) ea_nil)) (rc_isPT T.iv_NoMachine))) ea_nil) rc_intB) (r2_mulL (by decide) (by decide))) rfl
  refine sd_seq (sd_set 1 (ed_op (item rfl T.is_NoMachine_Nought) (item rfl T.is_NoMachine_NoText) (r2_addL (by decide)))) ?_
  refine sd_seq (sd_set 1 (ed_op (ed_op (ed_fz 1 rfl) (item rfl T.is_NoMachine_NoRow) (r2_addL (by decide))) (item rfl T.is_NoMachine_NoMachine) (r2_addL (by decide)))) ?_
  refine sd_seq (sd_set 1 (ed_op (ed_op (ed_fz 1 rfl) (item rfl T.is_NoMachine_NoWord) (r2_addL (by decide))) (item rfl T.is_NoMachine_OtherSigns) (r2_addL (by decide)))) ?_
  refine sd_seq (sd_set 1 (ed_op (ed_op (ed_fz 1 rfl) (item rfl T.is_NoMachine_TooMany) (r2_addL (by decide))) (bare rfl) (r2_addL (by decide)))) ?_
  exact sd_ret (ed_tup (ea_cons (ed_str _) (ea_cons (ed_join (ys := ["machine"]) (ed_str _) (ed_fz 1 rfl) (by decide)) ea_nil)))

theorem ok_word_TooMany (T : Tx K mg a_WeighError a_Nought a_NoText a_NoRow a_NoMachine a_NoWord a_OtherSigns a_TooMany a_Machine a_NONE) : ClE P w K mg base 1 "_law_word_of" a_TooMany (.tup [.str "refused", .str "many"]) := by
  refine clE T.d__law_word_of sc_law_word_of rfl fun f cdv A outer s H p hz hf hr => ?_
  refine ⟨_, (pss_cons (ps_set (i := 1) sc_law_word_of.nd rfl (by first | exact Or.inl rfl | exact Or.inr rfl) (pe_op opAdd (pe_op opMul (pe_lst (pa_cons pe_str pa_nil)) (pe_callTy callInt (by rfl) T.n_int bt_int (pa_cons (pe_callB (call_isP (p := p) List.mem_cons_self T.ge_TooMany hz hf) (by rfl) T.n_isinstance bt_isinstance (pa_cons (pv 0) (pa_cons (pe_glob (v := .ref a_Nought) rfl T.m_Nought rfl) pa_nil))) pa_nil))) (pe_op opMul (pe_lst (pa_cons pe_str pa_nil)) (pe_callTy callInt (by rfl) T.n_int bt_int (pa_cons (pe_callB (call_isP (p := p) List.mem_cons_self T.ge_TooMany hz hf) (by rfl) T.n_isinstance bt_isinstance (pa_cons (pv 0) (pa_cons (pe_glob (v := .ref a_NoText) rfl T.m_NoText rfl) pa_nil))) pa_nil)))))
  (pss_cons (ps_set (i := 1) sc_law_word_of.nd rfl (by first | exact Or.inl rfl | exact Or.inr rfl) (pe_op opAdd (pe_op opAdd (pv 1) (pe_op opMul (pe_lst (pa_cons pe_str pa_nil)) (pe_callTy callInt (by rfl) T.n_int bt_int (pa_cons (pe_callB (call_isP (p := p) List.mem_cons_self T.ge_TooMany hz hf) (by rfl) T.n_isinstance bt_isinstance (pa_cons (pv 0) (pa_cons (pe_glob (v := .ref a_NoRow) rfl T.m_NoRow rfl) pa_nil))) pa_nil)))) (pe_op opMul (pe_lst (pa_cons pe_str pa_nil)) (pe_callTy callInt (by rfl) T.n_int bt_int (pa_cons (pe_callB (call_isP (p := p) List.mem_cons_self T.ge_TooMany hz hf) (by rfl) T.n_isinstance bt_isinstance (pa_cons (pv 0) (pa_cons (pe_glob (v := .ref a_NoMachine) rfl T.m_NoMachine rfl) pa_nil))) pa_nil)))))
  (pss_cons (ps_set (i := 1) sc_law_word_of.nd rfl (by first | exact Or.inl rfl | exact Or.inr rfl) (pe_op opAdd (pe_op opAdd (pv 1) (pe_op opMul (pe_lst (pa_cons pe_str pa_nil)) (pe_callTy callInt (by rfl) T.n_int bt_int (pa_cons (pe_callB (call_isP (p := p) List.mem_cons_self T.ge_TooMany hz hf) (by rfl) T.n_isinstance bt_isinstance (pa_cons (pv 0) (pa_cons (pe_glob (v := .ref a_NoWord) rfl T.m_NoWord rfl) pa_nil))) pa_nil)))) (pe_op opMul (pe_lst (pa_cons pe_str pa_nil)) (pe_callTy callInt (by rfl) T.n_int bt_int (pa_cons (pe_callB (call_isP (p := p) List.mem_cons_self T.ge_TooMany hz hf) (by rfl) T.n_isinstance bt_isinstance (pa_cons (pv 0) (pa_cons (pe_glob (v := .ref a_OtherSigns) rfl T.m_OtherSigns rfl) pa_nil))) pa_nil)))))
  (pss_cons (ps_set (i := 1) sc_law_word_of.nd rfl (by first | exact Or.inl rfl | exact Or.inr rfl) (pe_op opAdd (pe_op opAdd (pv 1) (pe_op opMul (pe_lst (pa_cons pe_str pa_nil)) (pe_callTy callInt (by rfl) T.n_int bt_int (pa_cons (pe_callB (call_isP (p := p) List.mem_cons_self T.ge_TooMany hz hf) (by rfl) T.n_isinstance bt_isinstance (pa_cons (pv 0) (pa_cons (pe_glob (v := .ref a_TooMany) rfl T.m_TooMany rfl) pa_nil))) pa_nil)))) (pe_op opMul (pe_lst (pa_cons pe_str pa_nil)) (pe_callTy callInt (by rfl) T.n_int bt_int (pa_cons (pe_not (pe_callB (call_isP (p := p) List.mem_cons_self T.ge_TooMany hz hf) (by rfl) T.n_isinstance bt_isinstance (pa_cons (pv 0) (pa_cons (pe_bltn (v := .ty "ValueError") (by rfl) T.n_ValueError bt_ValueError rfl) pa_nil)))) pa_nil)))))
  (pss_one (ps_ret (pe_tup (pa_cons pe_str (pa_cons (pe_join pe_str (pv 1)) pa_nil))))))))), ?_⟩
  have item : ∀ {Γ : Gam} {x : Str} {D' : Addr} {b : Bool}, Γ[0]? = some (.fz (.adr p.1)) → PySem.W.kitOne K (.ref a_TooMany) (.ref D') = some b →
      Ed K (tOp rMulA (tLst (tCons (tC (.str x)) tNil)) (tCB rIntA (tCons (tCB (rIsE K a_TooMany p.1) (tCons (tVar 0) (tCons (tC (.ref D')) tNil))) tNil))) Γ (.lst (if b then [.str x] else [])) := fun {Γ x D' b} h k =>
    ed_is (ed_op (ed_lst (ea_cons (ed_str _) ea_nil)) (ed_cb (ea_cons (ed_cb (ea_cons (ed_fz 0 h) (ea_cons (ed_adr _) ea_nil)) (rc_isP k)) ea_nil) rc_intB) (r2_mulL (Nat.le_of_ble_eq_true (by cases b <;> rfl)) (by cases b <;> decide))) (by cases b <;> rfl)
  have bare : ∀ {Γ : Gam}, Γ[0]? = some (.fz (.adr p.1)) →
      Ed K (tOp rMulA (tLst (tCons (tC (.str "bare")) tNil)) (tCB rIntA (tCons (tNotV (tCB (rIsE K a_TooMany p.1) (tCons (tVar 0) (tCons (tC (.ty "ValueError")) tNil)))) tNil))) Γ (.lst []) := fun {Γ} h =>
    ed_is (ed_op (ed_lst (ea_cons (ed_str _) ea_nil)) (ed_cb (ea_cons (ed_notV (ed_cb (ea_cons (ed_fz 0 h) (ea_cons (ed_ty _) ea_nil)) (rc_isPT T.iv_TooMany))) ea_nil) rc_intB) (r2_mulL (by decide) (by decide))) rfl
  refine sd_seq (sd_set 1 (ed_op (item rfl T.is_TooMany_Nought) (item rfl T.is_TooMany_NoText) (r2_addL (by decide)))) ?_
  refine sd_seq (sd_set 1 (ed_op (ed_op (ed_fz 1 rfl) (item rfl T.is_TooMany_NoRow) (r2_addL (by decide))) (item rfl T.is_TooMany_NoMachine) (r2_addL (by decide)))) ?_
  refine sd_seq (sd_set 1 (ed_op (ed_op (ed_fz 1 rfl) (item rfl T.is_TooMany_NoWord) (r2_addL (by decide))) (item rfl T.is_TooMany_OtherSigns) (r2_addL (by decide)))) ?_
  refine sd_seq (sd_set 1 (ed_op (ed_op (ed_fz 1 rfl) (item rfl T.is_TooMany_TooMany) (r2_addL (by decide))) (bare rfl) (r2_addL (by decide)))) ?_
  exact sd_ret (ed_tup (ea_cons (ed_str _) (ea_cons (ed_join (ys := ["many"]) (ed_str _) (ed_fz 1 rfl) (by decide)) ea_nil)))

theorem ok_word_NoWord (T : Tx K mg a_WeighError a_Nought a_NoText a_NoRow a_NoMachine a_NoWord a_OtherSigns a_TooMany a_Machine a_NONE) : ClE P w K mg base 1 "_law_word_of" a_NoWord (.tup [.str "refused", .str "word"]) := by
  refine clE T.d__law_word_of sc_law_word_of rfl fun f cdv A outer s H p hz hf hr => ?_
  refine ⟨_, (pss_cons (ps_set (i := 1) sc_law_word_of.nd rfl (by first | exact Or.inl rfl | exact Or.inr rfl) (pe_op opAdd (pe_op opMul (pe_lst (pa_cons pe_str pa_nil)) (pe_callTy callInt (by rfl) T.n_int bt_int (pa_cons (pe_callB (call_isP (p := p) List.mem_cons_self T.ge_NoWord hz hf) (by rfl) T.n_isinstance bt_isinstance (pa_cons (pv 0) (pa_cons (pe_glob (v := .ref a_Nought) rfl T.m_Nought rfl) pa_nil))) pa_nil))) (pe_op opMul (pe_lst (pa_cons pe_str pa_nil)) (pe_callTy callInt (by rfl) T.n_int bt_int (pa_cons (pe_callB (call_isP (p := p) List.mem_cons_self T.ge_NoWord hz hf) (by rfl) T.n_isinstance bt_isinstance (pa_cons (pv 0) (pa_cons (pe_glob (v := .ref a_NoText) rfl T.m_NoText rfl) pa_nil))) pa_nil)))))
  (pss_cons (ps_set (i := 1) sc_law_word_of.nd rfl (by first | exact Or.inl rfl | exact Or.inr rfl) (pe_op opAdd (pe_op opAdd (pv 1) (pe_op opMul (pe_lst (pa_cons pe_str pa_nil)) (pe_callTy callInt (by rfl) T.n_int bt_int (pa_cons (pe_callB (call_isP (p := p) List.mem_cons_self T.ge_NoWord hz hf) (by rfl) T.n_isinstance bt_isinstance (pa_cons (pv 0) (pa_cons (pe_glob (v := .ref a_NoRow) rfl T.m_NoRow rfl) pa_nil))) pa_nil)))) (pe_op opMul (pe_lst (pa_cons pe_str pa_nil)) (pe_callTy callInt (by rfl) T.n_int bt_int (pa_cons (pe_callB (call_isP (p := p) List.mem_cons_self T.ge_NoWord hz hf) (by rfl) T.n_isinstance bt_isinstance (pa_cons (pv 0) (pa_cons (pe_glob (v := .ref a_NoMachine) rfl T.m_NoMachine rfl) pa_nil))) pa_nil)))))
  (pss_cons (ps_set (i := 1) sc_law_word_of.nd rfl (by first | exact Or.inl rfl | exact Or.inr rfl) (pe_op opAdd (pe_op opAdd (pv 1) (pe_op opMul (pe_lst (pa_cons pe_str pa_nil)) (pe_callTy callInt (by rfl) T.n_int bt_int (pa_cons (pe_callB (call_isP (p := p) List.mem_cons_self T.ge_NoWord hz hf) (by rfl) T.n_isinstance bt_isinstance (pa_cons (pv 0) (pa_cons (pe_glob (v := .ref a_NoWord) rfl T.m_NoWord rfl) pa_nil))) pa_nil)))) (pe_op opMul (pe_lst (pa_cons pe_str pa_nil)) (pe_callTy callInt (by rfl) T.n_int bt_int (pa_cons (pe_callB (call_isP (p := p) List.mem_cons_self T.ge_NoWord hz hf) (by rfl) T.n_isinstance bt_isinstance (pa_cons (pv 0) (pa_cons (pe_glob (v := .ref a_OtherSigns) rfl T.m_OtherSigns rfl) pa_nil))) pa_nil)))))
  (pss_cons (ps_set (i := 1) sc_law_word_of.nd rfl (by first | exact Or.inl rfl | exact Or.inr rfl) (pe_op opAdd (pe_op opAdd (pv 1) (pe_op opMul (pe_lst (pa_cons pe_str pa_nil)) (pe_callTy callInt (by rfl) T.n_int bt_int (pa_cons (pe_callB (call_isP (p := p) List.mem_cons_self T.ge_NoWord hz hf) (by rfl) T.n_isinstance bt_isinstance (pa_cons (pv 0) (pa_cons (pe_glob (v := .ref a_TooMany) rfl T.m_TooMany rfl) pa_nil))) pa_nil)))) (pe_op opMul (pe_lst (pa_cons pe_str pa_nil)) (pe_callTy callInt (by rfl) T.n_int bt_int (pa_cons (pe_not (pe_callB (call_isP (p := p) List.mem_cons_self T.ge_NoWord hz hf) (by rfl) T.n_isinstance bt_isinstance (pa_cons (pv 0) (pa_cons (pe_bltn (v := .ty "ValueError") (by rfl) T.n_ValueError bt_ValueError rfl) pa_nil)))) pa_nil)))))
  (pss_one (ps_ret (pe_tup (pa_cons pe_str (pa_cons (pe_join pe_str (pv 1)) pa_nil))))))))), ?_⟩
  have item : ∀ {Γ : Gam} {x : Str} {D' : Addr} {b : Bool}, Γ[0]? = some (.fz (.adr p.1)) → PySem.W.kitOne K (.ref a_NoWord) (.ref D') = some b →
      Ed K (tOp rMulA (tLst (tCons (tC (.str x)) tNil)) (tCB rIntA (tCons (tCB (rIsE K a_NoWord p.1) (tCons (tVar 0) (tCons (tC (.ref D')) tNil))) tNil))) Γ (.lst (if b then [.str x] else [])) := fun {Γ x D' b} h k =>
    ed_is (ed_op (ed_lst (ea_cons (ed_str _) ea_nil)) (ed_cb (ea_cons (ed_cb (ea_cons (ed_fz 0 h) (ea_cons (ed_adr _) ea_nil)) (rc_isP k)) ea_nil) rc_intB) (r2_mulL (Nat.le_of_ble_eq_true (by cases b <;> rfl)) (by cases b <;> decide))) (by cases b <;> rfl)
  have bare : ∀ {Γ : Gam}, Γ[0]? = some (.fz (.adr p.1)) →
      Ed K (tOp rMulA (tLst (tCons (tC (.str "bare")) tNil)) (tCB rIntA (tCons (tNotV (tCB (rIsE K a_NoWord p.1) (tCons (tVar 0) (tCons (tC (.ty "ValueError")) tNil)))) tNil))) Γ (.lst []) := fun {Γ} h =>
    ed_is (ed_op (ed_lst (ea_cons (ed_str _) ea_nil)) (ed_cb (ea_cons (ed_notV (ed_cb (ea_cons (ed_fz 0 h) (ea_cons (ed_ty _) ea_nil)) (rc_isPT T.iv_NoWord))) ea_nil) rc_intB) (r2_mulL (by decide) (by decide))) rfl
  refine sd_seq (sd_set 1 (ed_op (item rfl T.is_NoWord_Nought) (item rfl T.is_NoWord_NoText) (r2_addL (by decide)))) ?_
  refine sd_seq (sd_set 1 (ed_op (ed_op (ed_fz 1 rfl) (item rfl T.is_NoWord_NoRow) (r2_addL (by decide))) (item rfl T.is_NoWord_NoMachine) (r2_addL (by decide)))) ?_
  refine sd_seq (sd_set 1 (ed_op (ed_op (ed_fz 1 rfl) (item rfl T.is_NoWord_NoWord) (r2_addL (by decide))) (item rfl T.is_NoWord_OtherSigns) (r2_addL (by decide)))) ?_
  refine sd_seq (sd_set 1 (ed_op (ed_op (ed_fz 1 rfl) (item rfl T.is_NoWord_TooMany) (r2_addL (by decide))) (bare rfl) (r2_addL (by decide)))) ?_
  exact sd_ret (ed_tup (ea_cons (ed_str _) (ea_cons (ed_join (ys := ["word"]) (ed_str _) (ed_fz 1 rfl) (by decide)) ea_nil)))

/-! ### Machine, told -/
theorem ok_MachineG (T : Tx K mg a_WeighError a_Nought a_NoText a_NoRow a_NoMachine a_NoWord a_OtherSigns a_TooMany a_Machine a_NONE) (c_need_machine : Cl P w K mg base (L2.CX P w) 5 "need_machine" (spX K Snm (TnmG a_NoMachine a_TooMany))) :
    Ci P w K mg base (L2.CX P w) 6 "Machine" a_Machine (spOr (spI K a_Machine (Smc a_Machine) (TnmG a_NoMachine a_TooMany)) (spIN K a_Machine (Smc a_Machine))) := by
  refine ciXN T.i_Machine T.m_Machine sc_MachineD_initD (fun ds d h => by obtain ⟨x, b, m, e, rfl, _⟩ := h; rfl) (fun ds c h => by obtain ⟨_, _, _, _, h, _⟩ := h; rw [h.ds]; rfl) (fun ds d h => by obtain ⟨x, b, m, e, rfl, _⟩ := h; rfl) fun f cdv A outer s H E hr => ?_
  refine ⟨_, (pss_cons (ps_expr (pclR c_need_machine hr (by decide) rfl (passes_call (takes_of rfl rfl rfl rfl) fun _ _ _ _ h => h) (pa_cons (pv 1) (pa_cons (pv 2) (pa_cons (pv 3) (pa_cons (pv 4) pa_nil))))))
  (pss_cons (ps_fld (pv 0) (pv 1) rfl)
  (pss_cons (ps_fld (pv 0) (pe_callTy callList (by rfl) T.n_list bt_list (pa_cons (pv 2) pa_nil)) rfl)
  (pss_cons (ps_fld (pv 0) (pe_lc rfl sc_MachineD_initD.nd (own := [("table", 5)]) (pi_list (pv 3)) (blkOk_by (by kernel_rfl)) (fun _ _ _ _ _ => (pg_name (i := 5) sc_MachineD_initD.nd rfl (by first | exact Or.inl rfl | exact Or.inr rfl))) (fun _ _ _ _ _ => pts_nil) (fun _ _ _ _ _ => (pe_lc rfl sc_MachineD_initD.nd (own := [("row", 6)]) (pi_cast (pi_list (pv 5)) (rfl : _ = iList K _)) (blkOk_by (by kernel_rfl)) (fun _ _ _ _ _ => (pg_name (i := 6) sc_MachineD_initD.nd rfl (by first | exact Or.inl rfl | exact Or.inr rfl))) (fun _ _ _ _ _ => pts_nil) (fun _ _ _ _ _ => (pe_callTy (callListK (K := K) rfl) (by rfl) T.n_list bt_list (pa_cons (pv 6) pa_nil)))))) rfl)
  (pss_one (ps_fld (pv 0) (pe_callTy callList (by rfl) T.n_list bt_list (pa_cons (pv 4) pa_nil)) rfl)))))), fun ds d h q => ?_, fun ds c h q => ?_, fun ds d h q => ?_⟩
  · obtain ⟨x, b, m, e, rfl, G, rfl⟩ := h
    refine ⟨[.ob (some q) a_Machine (mcF x b m e), .fz (.str x), .fz (shL b), .fz (.lst (m.map tabL)), .fz (shL e), .no, .no], mcF x b m e, rfl, rfl, ?_⟩
    have gx : x.length ≤ 100000 := by have := G.sg.1; omega
    refine sd_seq (sd_drop (ed_callX (ea_cons (ed_fz 1 rfl) (ea_cons (ed_fz 2 rfl) (ea_cons (ed_fz 3 rfl) (ea_cons (ed_fz 4 rfl) ea_nil)))) ⟨x, b, m, e, rfl, G, rfl⟩)) ?_
    refine sd_seq (sd_fld 0 rfl (ed_fz 1 rfl) T.cl_Machine T.na_Machine_signs (by decide)) ?_
    refine sd_seq (sd_fld 0 rfl (ed_cb (ea_cons (ed_fz 2 rfl) ea_nil) rc_listL) T.cl_Machine T.na_Machine_begins (putD_len (by decide) (by decide))) ?_
    refine sd_seq (sd_fld 0 rfl (d := .lst (m.map tabL)) (ed_map m tabL tabL (ei_list (ed_fz 3 rfl)) (by rw [G.ml]; exact gx) fun U hU => ⟨[5], _, eg_name 5, by simp, ed_map U shL shL (ei_list (ed_fz 5 rfl)) (by rw [(G.gm U hU).1]; have := G.few; omega) fun r hr => ⟨[6], _, eg_name 6, by simp, ed_cb (ea_cons (ed_fz 6 rfl) ea_nil) rc_listL⟩⟩) T.cl_Machine T.na_Machine_moves (putD_len (putD_len (by decide) (by decide)) (by decide))) ?_
    refine sd_is (sd_fld 0 rfl (ed_cb (ea_cons (ed_fz 4 rfl) ea_nil) rc_listL) T.cl_Machine T.na_Machine_ends (putD_len (putD_len (putD_len (by decide) (by decide)) (by decide)) (by decide))) ?_
    show Oc.nx [.ob (some q) a_Machine (putD "ends" _ (putD "moves" _ (putD "begins" _ (putD "signs" _ [])))), _, _, _, _, _, _] = _
    rw [put4]
    rfl
  · obtain ⟨s', b, m, e, M, hc⟩ := h
    obtain ⟨rfl, _, _, _, _⟩ := id M
    exact sd_stop (sd_dropX (xd_callX (ea_cons (ed_fz 1 rfl) (ea_cons (ed_fz 2 rfl) (ea_cons (ed_fz 3 rfl) (ea_cons (ed_fz 4 rfl) ea_nil)))) ⟨s', b, m, e, M, hc⟩)) rfl
  · obtain ⟨x, b, m, e, rfl, G, rfl⟩ := h
    have gx : x.length ≤ 100000 := by have := G.sg.1; omega
    have lsh : ∀ (r : List (Int × Int)), ∀ d ∈ r.map sh, Lf K d := fun r d hd => by
      obtain ⟨p, _, rfl⟩ := List.mem_map.mp hd
      exact lf_pair _ _
    refine ⟨_, _, rfl, ?_, sdI_seq (sdI_start (E := E) (Γ1 := [.ob (some q) a_Machine [], .fz (.str x), .fz (shL b), .fz (.lst (m.map tabL)), .fz (shL e), .no, .no]) (sd_drop (ed_callX (ea_cons (ed_fz 1 rfl) (ea_cons (ed_fz 2 rfl) (ea_cons (ed_fz 3 rfl) (ea_cons (ed_fz 4 rfl) ea_nil)))) ⟨x, b, m, e, rfl, G, rfl⟩)) (i := 0) rfl)
      (sdI_seq (sdI_fld 0 rfl (edN_lf (ed_fz 1 rfl) (lf_str x)) T.cl_Machine T.na_Machine_signs (by decide))
      (sdI_seq (sdI_fld 0 rfl (edN_copy (ed_fz 2 rfl) (lsh b)) T.cl_Machine T.na_Machine_begins (putD_len (by decide) (by decide)))
      (sdI_seq (sdI_fld 0 rfl (d := .lst (m.map tabL)) (edN_map m tabL tabL (ei_list (ed_fz 3 rfl)) (by rw [G.ml]; exact gx) fun U hU => ⟨[5], _, eg_name 5, by simp, edN_map U shL shL (ei_list (ed_fz 5 rfl)) (by rw [(G.gm U hU).1]; have := G.few; omega) fun r hr => ⟨[6], _, eg_name 6, by simp, edN_copy (ed_fz 6 rfl) (lsh r)⟩⟩) T.cl_Machine T.na_Machine_moves (putD_len (putD_len (by decide) (by decide)) (by decide)))
      (sdI_fld 0 rfl (edN_copy (ed_fz 4 rfl) (lsh e)) T.cl_Machine T.na_Machine_ends (putD_len (putD_len (putD_len (by decide) (by decide)) (by decide)) (by decide))))))⟩
    rw [put4]
    rfl
def refMa : D := .tup [.str "refused", .str "machine"]
def refTo : D := .tup [.str "refused", .str "many"]
def refWo : D := .tup [.str "refused", .str "word"]
def StoN (C : Addr) : List D → D → Prop := fun ds d => ∃ x b m e, ds = [.lst (mcA x b m e)] ∧ GoodM x b m e ∧ d = .ins C (mcF x b m e)
def StoG (C : Addr) : List D → D → Prop := fun ds d => StoN C ds d ∨ ∃ s b m e, ds = [.lst [s, b, m, e]] ∧ M4 [s, b, m, e] s b m e ∧ ((good4 s b m e = false ∧ d = refMa) ∨ (good4 s b m e = true ∧ 12 < lenD b ∧ d = refTo))
theorem ok_told (T : Tx K mg a_WeighError a_Nought a_NoText a_NoRow a_NoMachine a_NoWord a_OtherSigns a_TooMany a_Machine a_NONE) (c_Machine : Ci P w K mg base (L2.CX P w) 6 "Machine" a_Machine (spOr (spI K a_Machine (Smc a_Machine) (TnmG a_NoMachine a_TooMany)) (spIN K a_Machine (Smc a_Machine)))) (w1 : ClE P w K mg base 1 "_law_word_of" a_NoMachine refMa) (w2 : ClE P w K mg base 1 "_law_word_of" a_TooMany refTo) :
    Cl P w K mg base CX0 8 "_law_told" (spOr (spR K (StoG a_Machine)) (spN K (StoN a_Machine))) := by
  have hW := W2_ok w1 w2
  have hWm := w1.mx
  have ne : a_TooMany ≠ a_NoMachine := kit_ne T.is_TooMany_NoMachine
  refine clRN T.d__law_told sc_law_told (fun ds d h => by rcases h with ⟨_, _, _, _, rfl, _⟩ | ⟨_, _, _, _, rfl, _⟩ <;> rfl) (fun ds d h => by obtain ⟨_, _, _, _, rfl, _⟩ := h; rfl) fun f cdv A outer s H E hr => ?_
  refine ⟨_, (pss_one (ps_try_as (i := 1) (Wout := fun _ _ _ _ => False) rfl rfl sc_law_told.nd rfl rfl ⟨rfl, by decide, .inl T.m_WeighError⟩ takes0 (fun W pn xe tk _ =>
  (pss_one (ps_ret (pciS c_Machine hr (by decide) rfl (fun σ => passAt tk σ) (pa_cons (pe_ix (ix_seqK (K := K) rfl) (pv 0) pe_int (fun _ _ => rfl)) (pa_cons (pe_ix (ix_seqK (K := K) rfl) (pv 0) pe_int (fun _ _ => rfl)) (pa_cons (pe_ix (ix_seqK (K := K) rfl) (pv 0) pe_int (fun _ _ => rfl)) (pa_cons (pe_ix (ix_seqK (K := K) rfl) (pv 0) pe_int (fun _ _ => rfl)) pa_nil))))))))
  (fun a oe cls d pn hz hf => (pss_one (ps_ret (pe_callE hW hWm hr (by decide) hz hf rfl (pa_cons (pv 1) pa_nil))))))), fun ds d h => ?_, fun ds d h => ?_⟩
  · have ar : ∀ {s b m e : D}, Ea K (tCons (tOp (rIx K) (tVar 0) (tC (.int 0))) (tCons (tOp (rIx K) (tVar 0) (tC (.int 1))) (tCons (tOp (rIx K) (tVar 0) (tC (.int 2))) (tCons (tOp (rIx K) (tVar 0) (tC (.int 3))) tNil)))) [.fz (.lst [s, b, m, e]), .no] [s, b, m, e] := fun {s b m e} => ea_cons (ed_op (ed_fz 0 rfl) (ed_int 0) (r2_ixL rfl)) (ea_cons (ed_op (ed_fz 0 rfl) (ed_int 1) (r2_ixL rfl)) (ea_cons (ed_op (ed_fz 0 rfl) (ed_int 2) (r2_ixL rfl)) (ea_cons (ed_op (ed_fz 0 rfl) (ed_int 3) (r2_ixL rfl)) ea_nil)))
    rcases h with ⟨x, b, m, e, rfl, G, rfl⟩ | ⟨s', b, m, e, rfl, M, h⟩
    · exact sd_calm fun W => sd_ret (ed_makeSL ar ⟨x, b, m, e, rfl, G, rfl⟩)
    · rcases h with ⟨g, rfl⟩ | ⟨g, l, rfl⟩
      · exact sd_caught (Nat.le_of_ble_eq_true rfl) (fun W => sw_ret (xw_makeSL ar ⟨s', b, m, e, M, .inl ⟨g, rfl⟩⟩)) T.em_NoMachine W2_one
      · exact sd_caught (Nat.le_of_ble_eq_true rfl) (fun W => sw_ret (xw_makeSL ar ⟨s', b, m, e, M, .inr ⟨g, l, rfl⟩⟩)) T.em_TooMany (W2_two ne)
  · obtain ⟨x, b, m, e, rfl, G, rfl⟩ := h
    exact sd_calm fun W => sd_retF (edN_makeS (ea_cons (ed_op (ed_fz 0 rfl) (ed_int 0) (r2_ixL rfl)) (ea_cons (ed_op (ed_fz 0 rfl) (ed_int 1) (r2_ixL rfl)) (ea_cons (ed_op (ed_fz 0 rfl) (ed_int 2) (r2_ixL rfl)) (ea_cons (ed_op (ed_fz 0 rfl) (ed_int 3) (r2_ixL rfl)) ea_nil)))) ⟨x, b, m, e, rfl, G, rfl⟩)

theorem ok_common (T : Tx K mg a_WeighError a_Nought a_NoText a_NoRow a_NoMachine a_NoWord a_OtherSigns a_TooMany a_Machine a_NONE) : Cl P w K mg base CX0 1 "_law_common" (spR K Sdiv) := by
  refine clR T.d__law_common sc_law_common (fun ds d h => by obtain ⟨a, b, rfl, _⟩ := h; rfl) fun f cdv A outer s H E hr => ?_
  refine ⟨_, (pss_cons (ps_while PassesOwn.never (pt_cmpR op_gt (pv 1) pe_int (nomark _))
  (pss_one (ps_par (i := 0) (j := 1) rfl sc_law_common.nd rfl rfl (by decide) rfl rfl (pa_cons (pv 1) (pa_cons (pe_op op_mod (pv 0) (pv 1)) pa_nil)) rfl)))
  (pss_one (ps_ret (pv 0)))), fun ds d h => ?_⟩
  obtain ⟨a, b, rfl, rfl⟩ := h
  refine sd_seq (Γ1 := [.fz (.int (Nat.gcd a b : Nat)), .fz (.int 0)]) (sd_whileE ?_) (sd_ret (ed_fz 0 rfl))
  show ∃ n, LoopW K E0 _ _ n [.fz (.int a), .fz (.int b)] _
  induction b using Nat.strongRecOn generalizing a with
  | _ b ih =>
    have test : Et K (tTest (tOp (rI0 fun i j => .bl (decide (j < i))) (tVar 1) (tC (.int 0)))) [.fz (.int a), .fz (.int b)] (decide ((0 : Int) < b)) := et_test (ed_op (ed_fz 1 rfl) (ed_int 0) r2_gt)
    by_cases hb : b = 0
    · subst hb
      rw [Nat.gcd_zero_right]
      exact ⟨0, .done test⟩
    · obtain ⟨n, hn⟩ := ih (a % b) (Nat.mod_lt _ (Nat.pos_of_ne_zero hb)) b
      rw [show Nat.gcd b (a % b) = Nat.gcd a b by rw [Nat.gcd_comm b, ← Nat.gcd_rec, Nat.gcd_comm]] at hn
      refine ⟨n + 1, .step (et_is test (decide_eq_true (by omega))) (Sd.toLp ?_) hn⟩
      exact sd_par (ea_cons (ed_fz 1 rfl) (ea_cons (ed_op (ed_fz 0 rfl) (ed_fz 1 rfl) (r2_mod (by omega))) ea_nil))

/-- the law's own share -/
def Sls : List D → D → Prop := fun ds d => ∃ t b : Int, ds = [.int t, .int b] ∧ 0 < b ∧ b.natAbs.log2 < 9000 ∧ d = sh (mkS t b)
theorem mkS_posB {t b : Int} (hb : 0 < b) : mkS t b = (t.fdiv (Nat.gcd t.natAbs b.toNat : Nat), b.fdiv (Nat.gcd t.natAbs b.toNat : Nat)) := by
  have e : cmn t b = (Nat.gcd t.natAbs b.toNat : Nat) := by
    unfold cmn
    rw [if_neg (by omega), show b.natAbs = b.toNat by omega]
  unfold mkS
  rw [e]
theorem ok_lshare (T : Tx K mg a_WeighError a_Nought a_NoText a_NoRow a_NoMachine a_NoWord a_OtherSigns a_TooMany a_Machine a_NONE) (c__law_common : Cl P w K mg base CX0 1 "_law_common" (spR K Sdiv)) : Cl P w K mg base CX0 2 "_law_share" (spR K Sls) := by
  refine clR T.d__law_share sc_law_share (fun ds d h => by obtain ⟨a, b, rfl, _⟩ := h; rfl) fun f cdv A outer s H E hr => ?_
  refine ⟨_, (pss_cons (ps_set (i := 2) sc_law_share.nd rfl (by first | exact Or.inl rfl | exact Or.inr rfl) (pcl c__law_common hr (by decide) rfl (pa_cons (pe_callB call_abs (by rfl) T.n_abs bt_abs (pa_cons (pv 0) pa_nil)) (pa_cons (pv 1) pa_nil))))
  (pss_one (ps_ret (pe_tup (pa_cons (pe_op opFd (pv 0) (pv 2)) (pa_cons (pe_op opFd (pv 1) (pv 2)) pa_nil)))))), fun ds d h => ?_⟩
  obtain ⟨t, b, rfl, hb, hl, rfl⟩ := h
  have fd : ∀ x : Int, CFd x (Nat.gcd t.natAbs b.toNat : Nat) := fun x => by
    have z := cmn_fd (t := t) (x := x) (show b ≠ 0 by omega) hl
    have e : cmn t b = (Nat.gcd t.natAbs b.toNat : Nat) := by
      unfold cmn
      rw [if_neg (by omega), show b.natAbs = b.toNat by omega]
    rw [e] at z
    exact z
  rw [mkS_posB hb]
  refine sd_seq (sd_set 2 (ed_call (ea_cons (ed_cb (ea_cons (ed_fz 0 rfl) ea_nil) rc_abs) (ea_cons (ed_fz 1 rfl) ea_nil)) ⟨t.natAbs, b.toNat, by rw [Int.toNat_of_nonneg (by omega)], rfl⟩)) ?_
  exact sd_ret (ed_tup (ea_cons (ed_op (ed_fz 0 rfl) (ed_fz 2 rfl) (r2_fd (fd _))) (ea_cons (ed_op (ed_fz 1 rfl) (ed_fz 2 rfl) (r2_fd (fd _))) ea_nil)))

/-! ### the law's machine, drawn by cells -/
def Cb (ns : List Int) : Prop := ns.length ≤ 63 ∧ ∀ z ∈ ns, Builtin.Int.intBits z ≤ 1048576
def drawn (ns : List Int) (k : Nat) : Int := if k < ns.length then cellAt ns k else (cellAt ns 0 + 7919 * (k : Nat)) * 48271 % 2147483647
def Sdr : List D → D → Prop := fun ds d => ∃ (ns : List Int) (k : Nat), ds = [.scr ns, .int k] ∧ Cb ns ∧ k ≤ 100000 ∧ d = .int (drawn ns k)
theorem ok_drawn (T : Tx K mg a_WeighError a_Nought a_NoText a_NoRow a_NoMachine a_NoWord a_OtherSigns a_TooMany a_Machine a_NONE) (c__law_cell_at : Cl P w K mg base CX0 1 "_law_cell_at" (spR K Sca)) : Cl P w K mg base CX0 2 "_law_drawn" (spR K Sdr) := by
  refine clR T.d__law_drawn sc_law_drawn (fun ds d h => by obtain ⟨a, b, rfl, _⟩ := h; rfl) fun f cdv A outer s H E hr => ?_
  refine ⟨_, (pss_cons (ps_if (pt_cmpR opLt (pv 1) (pe_callB callLen (by rfl) T.n_len bt_len (pa_cons (pv 0) pa_nil)) (nomark _))
  (pss_one (ps_ret (pe_ix ix_seq (pv 0) (pv 1) (fun _ _ => rfl))))
  pss_nil)
  (pss_one (ps_ret (pe_op op_mod (pe_op opMul (pe_op opAdd (pcl c__law_cell_at hr (by decide) rfl (pa_cons (pv 0) (pa_cons pe_int pa_nil))) (pe_op opMul pe_int (pv 1))) pe_int) pe_int)))), fun ds d h => ?_⟩
  obtain ⟨ns, k, rfl, ⟨hl, hb⟩, hk9, rfl⟩ := h
  have test : Et K (tTest (tOp rLtA (tVar 1) (tCB (rLenA K) (tCons (tVar 0) tNil)))) [.fz (.scr ns), .fz (.int k)] (decide ((k : Int) < ns.length)) := et_test (ed_op (ed_fz 1 rfl) (ed_cb (ea_cons (ed_fz 0 rfl) ea_nil) rc_lenP) r2_ltI)
  unfold drawn
  by_cases hk : k < ns.length
  · have e : cellAt ns k = ns[k] := by simp [cellAt, List.getD, hk]
    rw [if_pos hk, e]
    exact sd_stop (sd_ifT (et_is test (decide_eq_true (by omega))) (sd_ret (ed_op (ed_fz 0 rfl) (ed_fz 1 rfl) (r2_ixP (atI_nat' hk))))) rfl
  · rw [if_neg hk]
    refine sd_seq (sd_ifF (et_is test (decide_eq_false (by omega))) sd_next) (sd_ret (ed_op (ed_op (ed_op (ed_call (ea_cons (ed_fz 0 rfl) (ea_cons (ed_int 0) ea_nil)) ⟨ns, 0, rfl, rfl⟩) (ed_op (ed_int 7919) (ed_fz 1 rfl) (r2_mulI ?_)) r2_addI) (ed_int 48271) (r2_mulI ?_)) (ed_int 2147483647) (r2_mod (by decide))))
    · exact CBig.of (a := 13) (b := 17) (by decide) (by omega) (by decide) (by decide) (by decide)
    · have z := sm_at hb 0
      unfold Sm at z
      have z2 : (cellAt ns 0).natAbs < 2 ^ 1048577 := by
        by_cases h0 : (cellAt ns 0).natAbs = 0
        · rw [h0]; exact Nat.pow_pos (by decide)
        · exact (Nat.log2_lt h0).mp (by omega)
      have z3 : (7919 * (k : Int)).natAbs < 2 ^ 1048577 := Nat.lt_of_lt_of_le (show _ < 2 ^ 30 by omega) (Nat.pow_le_pow_right (by decide) (by decide))
      have z4 : (2 : Nat) ^ 1048578 = 2 * 2 ^ 1048577 := by rw [show (1048578 : Nat) = 1048577 + 1 from rfl, Nat.pow_succ, Nat.mul_comm]
      exact CBig.of (a := 1048578) (b := 16) (by rw [z4]; have := Int.natAbs_add_le (cellAt ns 0) (7919 * (k : Int)); omega) (by decide) (by decide) (by decide) (by decide)
def topC (c : Int) : Int := if c % 8 < 3 then 0 else if c % 8 < 7 then c / 8 % 9 - 4 else c / 8 % 20001 - 10000
theorem topC_lt (c : Int) : (topC c).natAbs < 2 ^ 14 := by
  unfold topC
  split
  · decide
  · split <;> omega
def Stp : List D → D → Prop := fun ds d => ∃ c : Int, ds = [.int c] ∧ d = .int (topC c)
theorem ok_top (T : Tx K mg a_WeighError a_Nought a_NoText a_NoRow a_NoMachine a_NoWord a_OtherSigns a_TooMany a_Machine a_NONE) : Cl P w K mg base CX0 1 "_law_top" (spR K Stp) := by
  refine clR T.d__law_top sc_law_top (fun ds d h => by obtain ⟨a, rfl, _⟩ := h; rfl) fun f cdv A outer s H E hr => ?_
  refine ⟨_, (pss_cons (ps_if (pt_cmpR opLt (pe_op op_mod (pv 0) pe_int) pe_int (nomark _))
  (pss_one (ps_ret pe_int))
  pss_nil)
  (pss_cons (ps_if (pt_cmpR opLt (pe_op op_mod (pv 0) pe_int) pe_int (nomark _))
  (pss_one (ps_ret (pe_op op_sub (pe_op op_mod (pe_op opFd (pv 0) pe_int) pe_int) pe_int)))
  pss_nil)
  (pss_one (ps_ret (pe_op op_sub (pe_op op_mod (pe_op opFd (pv 0) pe_int) pe_int) pe_int))))), fun ds d h => ?_⟩
  obtain ⟨c, rfl, rfl⟩ := h
  have m8 : Ed K (tOp (rI (fun _ j => 0 < j) fun i j => .int (i % j)) (tVar 0) (tC (.int 8))) [.fz (.int c)] (.int (c % 8)) := ed_op (ed_fz 0 rfl) (ed_int 8) (r2_mod (by decide))
  have d8 : Ed K (tOp rFdA (tVar 0) (tC (.int 8))) [.fz (.int c)] (.int (c / 8)) := ed_op (ed_fz 0 rfl) (ed_int 8) (r2_fdP (by decide))
  unfold topC
  by_cases h1 : c % 8 < 3
  · rw [if_pos h1]
    exact sd_stop (sd_ifT (et_is (et_test (ed_op m8 (ed_int 3) r2_ltI)) (decide_eq_true h1)) (sd_ret (ed_int 0))) rfl
  · rw [if_neg h1]
    refine sd_seq (sd_ifF (et_is (et_test (ed_op m8 (ed_int 3) r2_ltI)) (decide_eq_false h1)) sd_next) ?_
    by_cases h2 : c % 8 < 7
    · rw [if_pos h2]
      exact sd_stop (sd_ifT (et_is (et_test (ed_op m8 (ed_int 7) r2_ltI)) (decide_eq_true h2)) (sd_ret (ed_op (ed_op d8 (ed_int 9) (r2_mod (by decide))) (ed_int 4) r2_subI))) rfl
    · rw [if_neg h2]
      exact sd_seq (sd_ifF (et_is (et_test (ed_op m8 (ed_int 7) r2_ltI)) (decide_eq_false h2)) sd_next) (sd_ret (ed_op (ed_op d8 (ed_int 20001) (r2_mod (by decide))) (ed_int 10000) r2_subI))
def scl (c : Int) : List Int := if c % 5 = 3 then [1 + c / 5 % 997, 1 + c / 15 % 97, 1 + c / 25 % 997] else [1 + c / 5 % 12, 1 + c / 60 % 6, 1 + c / 360 % 12]
def Ssc : List D → D → Prop := fun ds d => ∃ c : Int, ds = [.int c] ∧ d = intL (scl c)
theorem scl_ok (c : Int) : ∃ s0 s1 s2 : Int, scl c = [s0, s1, s2] ∧ Bz s0 10 ∧ Bz s1 7 ∧ Bz s2 10 := by
  unfold scl Bz
  split
  · exact ⟨_, _, _, rfl, by omega, by omega, by omega⟩
  · exact ⟨_, _, _, rfl, by omega, by omega, by omega⟩
theorem ok_scales (T : Tx K mg a_WeighError a_Nought a_NoText a_NoRow a_NoMachine a_NoWord a_OtherSigns a_TooMany a_Machine a_NONE) : Cl P w K mg base CX0 1 "_law_scales" (spR K Ssc) := by
  refine clR T.d__law_scales sc_law_scales (fun ds d h => by obtain ⟨a, rfl, _⟩ := h; rfl) fun f cdv A outer s H E hr => ?_
  refine ⟨_, (pss_cons (ps_if (pt_cmpR (op_eqD hr.units) (pe_op op_mod (pv 0) pe_int) pe_int (nomark _))
  (pss_one (ps_ret (pe_lst (pa_cons (pe_op opAdd pe_int (pe_op op_mod (pe_op opFd (pv 0) pe_int) pe_int)) (pa_cons (pe_op opAdd pe_int (pe_op op_mod (pe_op opFd (pv 0) pe_int) pe_int)) (pa_cons (pe_op opAdd pe_int (pe_op op_mod (pe_op opFd (pv 0) pe_int) pe_int)) pa_nil))))))
  pss_nil)
  (pss_one (ps_ret (pe_lst (pa_cons (pe_op opAdd pe_int (pe_op op_mod (pe_op opFd (pv 0) pe_int) pe_int)) (pa_cons (pe_op opAdd pe_int (pe_op op_mod (pe_op opFd (pv 0) pe_int) pe_int)) (pa_cons (pe_op opAdd pe_int (pe_op op_mod (pe_op opFd (pv 0) pe_int) pe_int)) pa_nil))))))), fun ds d h => ?_⟩
  obtain ⟨c, rfl, rfl⟩ := h
  have part : ∀ (a b : Int), 0 < a → a.natAbs.log2 < 9000 → 0 < b → Ed K (tOp rAddA (tC (.int 1)) (tOp (rI (fun _ j => 0 < j) fun i j => .int (i % j)) (tOp rFdA (tVar 0) (tC (.int a))) (tC (.int b)))) [.fz (.int c)] (.int (1 + c / a % b)) := fun a b h1 h2 h3 => ed_op (ed_int 1) (ed_op (ed_op (ed_fz 0 rfl) (ed_int a) (r2_fdP h1 h2)) (ed_int b) (r2_mod h3)) r2_addI
  unfold scl
  by_cases h1 : c % 5 = 3
  · rw [if_pos h1]
    exact sd_stop (sd_ifT (et_is (et_test (ed_op (ed_op (ed_fz 0 rfl) (ed_int 5) (r2_mod (by decide))) (ed_int 3) r2_eqI)) (decide_eq_true h1)) (sd_ret (ed_lst (ea_cons (part 5 997 (by decide) (by decide) (by decide)) (ea_cons (part 15 97 (by decide) (by decide) (by decide)) (ea_cons (part 25 997 (by decide) (by decide) (by decide)) ea_nil)))))) rfl
  · rw [if_neg h1]
    exact sd_seq (sd_ifF (et_is (et_test (ed_op (ed_op (ed_fz 0 rfl) (ed_int 5) (r2_mod (by decide))) (ed_int 3) r2_eqI)) (decide_eq_false h1)) sd_next) (sd_ret (ed_lst (ea_cons (part 5 12 (by decide) (by decide) (by decide)) (ea_cons (part 60 6 (by decide) (by decide) (by decide)) (ea_cons (part 360 12 (by decide) (by decide) (by decide)) ea_nil)))))
/-- tops -/
def tB (ns : List Int) (first many : Nat) : List Int := (List.range many).map fun k => topC (drawn ns (first + k))
def tE (ns : List Int) (first many : Nat) : List Int := (List.range many).map fun k => topC (drawn ns (first + many + k))
def tM (ns : List Int) (first p many : Nat) : List (List Int) := (List.range many).map fun i => (List.range many).map fun j => topC (drawn ns (first + 2 * many + p * many * many + i * many + j))
def tMs (ns : List Int) (first n many : Nat) : List (List (List Int)) := (List.range n).map fun p => tM ns first p many
def tabI (U : List (List Int)) : D := .lst (U.map intL)
def topsD (b : List Int) (ms : List (List (List Int))) (e : List Int) : D := .tup [intL b, .lst (ms.map tabI), intL e]
def Sto : List D → D → Prop := fun ds d => ∃ (ns : List Int) (first many : Nat) (x : Str), ds = [.scr ns, .int first, .str x, .int many] ∧ Cb ns ∧ first ≤ 100 ∧ many ≤ 12 ∧ x.length ≤ 6 ∧ d = topsD (tB ns first many) (tMs ns first x.length many) (tE ns first many)
theorem ok_tops (T : Tx K mg a_WeighError a_Nought a_NoText a_NoRow a_NoMachine a_NoWord a_OtherSigns a_TooMany a_Machine a_NONE) (c__law_drawn : Cl P w K mg base CX0 2 "_law_drawn" (spR K Sdr)) (c__law_top : Cl P w K mg base CX0 1 "_law_top" (spR K Stp)) : Cl P w K mg base CX0 3 "_law_tops" (spR K Sto) := by
  refine clR T.d__law_tops sc_law_tops (fun ds d h => by obtain ⟨_, _, _, _, rfl, _⟩ := h; rfl) fun f cdv A outer s H E hr => ?_
  refine ⟨_, (pss_cons (ps_setLc (i := 4) rfl sc_law_tops.nd rfl rfl (sw_true rfl rfl rfl (by decide +kernel)) (own := [("_law_k", 9)]) (pi_range1 rfl T.n_range (pa_cons (pv 3) pa_nil)) (blkOk_by (by kernel_rfl)) (fun _ _ _ _ _ => (pg_name (i := 9) sc_law_tops.nd rfl (by first | exact Or.inl rfl | exact Or.inr rfl))) (fun _ _ _ _ _ => pts_nil) (fun _ _ _ _ _ => (pcl c__law_top hr (by decide) rfl (pa_cons (pcl c__law_drawn hr (by decide) rfl (pa_cons (pv 0) (pa_cons (pe_op opAdd (pv 1) (pv 9)) pa_nil))) pa_nil))))
  (pss_cons (ps_setLc (i := 5) rfl sc_law_tops.nd rfl rfl (sw_true rfl rfl rfl (by decide +kernel)) (own := [("_law_k", 9)]) (pi_range1 rfl T.n_range (pa_cons (pv 3) pa_nil)) (blkOk_by (by kernel_rfl)) (fun _ _ _ _ _ => (pg_name (i := 9) sc_law_tops.nd rfl (by first | exact Or.inl rfl | exact Or.inr rfl))) (fun _ _ _ _ _ => pts_nil) (fun _ _ _ _ _ => (pcl c__law_top hr (by decide) rfl (pa_cons (pcl c__law_drawn hr (by decide) rfl (pa_cons (pv 0) (pa_cons (pe_op opAdd (pe_op opAdd (pv 1) (pv 3)) (pv 9)) pa_nil))) pa_nil))))
  (pss_cons (ps_set (i := 6) sc_law_tops.nd rfl (by first | exact Or.inl rfl | exact Or.inr rfl) (pe_lst pa_nil))
  (pss_cons (ps_for PassesOwn.never rfl (pi_range1 rfl T.n_range (pa_cons (pe_callB callLen (by rfl) T.n_len bt_len (pa_cons (pv 2) pa_nil)) pa_nil)) (pg_name (i := 7) sc_law_tops.nd rfl (by first | exact Or.inl rfl | exact Or.inr rfl))
  (pss_cons (ps_set (i := 8) sc_law_tops.nd rfl (by first | exact Or.inl rfl | exact Or.inr rfl) (pe_op opAdd (pe_op opAdd (pv 1) (pe_op opMul pe_int (pv 3))) (pe_op opMul (pe_op opMul (pv 7) (pv 3)) (pv 3))))
  (pss_one (ps_expr (pe_bm PySem.F.plainAttrs_list PySem.F.slot_list_append PySem.F.type_list_append mt_append (pv 6) (pa_cons (pe_lc rfl sc_law_tops.nd (own := [("_law_i", 10)]) (pi_range1 rfl T.n_range (pa_cons (pv 3) pa_nil)) (blkOk_by (by kernel_rfl)) (fun _ _ _ _ _ => (pg_name (i := 10) sc_law_tops.nd rfl (by first | exact Or.inl rfl | exact Or.inr rfl))) (fun _ _ _ _ _ => pts_nil) (fun _ _ _ _ _ => (pe_lc rfl sc_law_tops.nd (own := [("_law_j", 11)]) (pi_range1 rfl T.n_range (pa_cons (pv 3) pa_nil)) (blkOk_by (by kernel_rfl)) (fun _ _ _ _ _ => (pg_name (i := 11) sc_law_tops.nd rfl (by first | exact Or.inl rfl | exact Or.inr rfl))) (fun _ _ _ _ _ => pts_nil) (fun _ _ _ _ _ => (pcl c__law_top hr (by decide) rfl (pa_cons (pcl c__law_drawn hr (by decide) rfl (pa_cons (pv 0) (pa_cons (pe_op opAdd (pe_op opAdd (pv 8) (pe_op opMul (pv 10) (pv 3))) (pv 11)) pa_nil))) pa_nil)))))) pa_nil))))))
  (pss_one (ps_ret (pe_tup (pa_cons (pv 4) (pa_cons (pv 6) (pa_cons (pv 5) pa_nil)))))))))), fun ds d h => ?_⟩
  obtain ⟨ns, first, many, x, rfl, hb, h1, h2, h3, rfl⟩ := h
  have dr : ∀ {te : TE} {Γ : Gam} {k : Nat}, Γ[0]? = some (.fz (.scr ns)) → k ≤ 100000 → Ed K te Γ (.int (k : Nat)) → Ed K (tCall (spR K Stp) [] E0 (tCons (tCall (spR K Sdr) [] E0 (tCons (tVar 0) (tCons te tNil))) tNil)) Γ (.int (topC (drawn ns k))) := fun {te Γ k} hs hk he =>
    ed_call (ea_cons (ed_call (ea_cons (ed_fz 0 hs) (ea_cons he ea_nil)) ⟨ns, k, rfl, hb, hk, rfl⟩) ea_nil) ⟨_, rfl, rfl⟩
  have mm : many * many ≤ 144 := Nat.mul_le_mul h2 h2
  refine sd_seq (Γ1 := [.fz (.scr ns), .fz (.int first), .fz (.str x), .fz (.int many), .fz (intL (tB ns first many)), .no, .no, .no, .no, .no, .no, .no]) (sd_set 4 (ed_is (ed_rg many (fun k => .int (topC (drawn ns (first + k)))) 9 (by decide) (ed_fz 3 rfl) (by omega) fun j hj => dr rfl (by omega) (ed_is (ed_op (ed_fz 1 rfl) (ed_fz 9 rfl) r2_addI) (congrArg D.int (by omega)))) ?_)) ?_
  · unfold intL tB; rw [List.map_map]; rfl
  refine sd_seq (Γ1 := [.fz (.scr ns), .fz (.int first), .fz (.str x), .fz (.int many), .fz (intL (tB ns first many)), .fz (intL (tE ns first many)), .no, .no, .no, .no, .no, .no]) (sd_set 5 (ed_is (ed_rg many (fun k => .int (topC (drawn ns (first + many + k)))) 9 (by decide) (ed_fz 3 rfl) (by omega) fun j hj => dr rfl (by omega) (ed_is (ed_op (ed_op (ed_fz 1 rfl) (ed_fz 3 rfl) r2_addI) (ed_fz 9 rfl) r2_addI) (congrArg D.int (by omega)))) ?_)) ?_
  · unfold intL tE; rw [List.map_map]; rfl
  let st : Nat → Gam := fun p => [.fz (.scr ns), .fz (.int first), .fz (.str x), .fz (.int many), .fz (intL (tB ns first many)), .fz (intL (tE ns first many)), .ow ((List.range p).map fun p => tabI (tM ns first p many)), .no, .no, .no, .no, .no]
  refine sd_seq (Γ1 := st 0) (sd_setW 6 (ew_lst ea_nil)) ?_
  refine sd_seq (Γ1 := st x.length) (sd_for (Ei.is (ei_rng1 (n := (x.length : Int)) (ea_cons (ed_cb (ea_cons (ed_fz 2 rfl) ea_nil) (rc_lenS (by omega))) ea_nil) (by omega)) (show _ = rg 0 x.length by rw [Int.toNat_natCast])) (loopF_rg x.length st fun p hp => ?_)) ?_
  · refine ⟨[7], [.fz (.scr ns), .fz (.int first), .fz (.str x), .fz (.int many), .fz (intL (tB ns first many)), .fz (intL (tE ns first many)), .ow ((List.range p).map fun p => tabI (tM ns first p many)), .fz (.int (p : Nat)), .no, .no, .no, .no], eg_name 7, ?_⟩
    have b1 : CBig 2 (many : Int) := CBig.of (a := 2) (b := 4) (by decide) (by omega) (by decide) (by decide) (by decide)
    have b2 : CBig (p : Int) (many : Int) := CBig.of (a := 3) (b := 4) (by omega) (by omega) (by decide) (by decide) (by decide)
    have hpm : p * many ≤ 72 := Nat.mul_le_mul (show p ≤ 6 by omega) h2
    have hpmm : p * many * many ≤ 864 := Nat.mul_le_mul hpm h2
    have b3 : CBig ((p : Int) * many) (many : Int) := CBig.of (a := 7) (b := 4) (by rw [← Int.natCast_mul, Int.natAbs_natCast]; omega) (by omega) (by decide) (by decide) (by decide)
    refine Sd.lpLe (Γ1 := [.fz (.scr ns), .fz (.int first), .fz (.str x), .fz (.int many), .fz (intL (tB ns first many)), .fz (intL (tE ns first many)), .ow ((List.range (p + 1)).map fun p => tabI (tM ns first p many)), .fz (.int (p : Nat)), .fz (.int ((first + 2 * many + p * many * many : Nat) : Int)), .no, .no, .no]) (Sd.toLp (sd_seq (Γ1 := [.fz (.scr ns), .fz (.int first), .fz (.str x), .fz (.int many), .fz (intL (tB ns first many)), .fz (intL (tE ns first many)), .ow ((List.range p).map fun p => tabI (tM ns first p many)), .fz (.int (p : Nat)), .fz (.int ((first + 2 * many + p * many * many : Nat) : Int)), .no, .no, .no]) (sd_set 8 (ed_is (ed_op (ed_op (ed_fz 1 rfl) (ed_op (ed_int 2) (ed_fz 3 rfl) (r2_mulI b1)) r2_addI) (ed_op (ed_op (ed_fz 7 rfl) (ed_fz 3 rfl) (r2_mulI b2)) (ed_fz 3 rfl) (r2_mulI b3)) r2_addI) (congrArg D.int (by push_cast; rfl)))) (sd_is (sd_app 6 rfl (d := tabI (tM ns first p many)) ?_ (by rw [List.length_map, List.length_range]; omega)) ?_))) ?_
    · refine ed_is (ed_rg many (fun i => intL ((List.range many).map fun j => topC (drawn ns (first + 2 * many + p * many * many + i * many + j)))) 10 (by decide) (ed_fz 3 rfl) (by omega) fun i hi => ed_is (ed_rg many (fun j => .int (topC (drawn ns (first + 2 * many + p * many * many + i * many + j)))) 11 (by decide) (ed_fz 3 rfl) (by omega) fun j hj => dr rfl ?_ (ed_is (ed_op (ed_op (ed_fz 8 rfl) (ed_op (ed_fz 10 rfl) (ed_fz 3 rfl) (r2_mulI ?_)) r2_addI) (ed_fz 11 rfl) r2_addI) (congrArg D.int (by push_cast; rfl)))) ?_) ?_
      · have : i * many ≤ 144 := Nat.mul_le_mul (show i ≤ 12 by omega) h2
        omega
      · exact CBig.of (a := 4) (b := 4) (by omega) (by omega) (by decide) (by decide) (by decide)
      · unfold intL; rw [List.map_map]; rfl
      · unfold tabI tM; rw [List.map_map]; rfl
    · rw [List.range_succ, List.map_append]; rfl
    · exact .cons (.inr rfl) (.cons (.inr rfl) (.cons (.inr rfl) (.cons (.inr rfl) (.cons (.inr rfl) (.cons (.inr rfl) (.cons (.inr rfl) (.cons (.inl rfl) (.cons (.inl rfl) (.cons (.inl rfl) (.cons (.inl rfl) (.cons (.inl rfl) .nil)))))))))))
  · refine sd_freeze 6 rfl (sd_ret (ed_is (ed_tup (ea_cons (ed_fz 4 rfl) (ea_cons (ed_fz 6 rfl) (ea_cons (ed_fz 5 rfl) ea_nil)))) ?_))
    unfold topsD tMs Ow.toD
    rw [List.map_map]; rfl
def Slr : List D → D → Prop := fun ds d => ∃ (ts : List Int) (B : Int) (w : Nat), ds = [intL ts, .int B] ∧ Bz B w ∧ w ≤ 100 ∧ ts.length ≤ 15 ∧ d = shL (rwS B ts)
theorem ok_lrow (T : Tx K mg a_WeighError a_Nought a_NoText a_NoRow a_NoMachine a_NoWord a_OtherSigns a_TooMany a_Machine a_NONE) (c__law_share : Cl P w K mg base CX0 2 "_law_share" (spR K Sls)) : Cl P w K mg base CX0 3 "_law_row" (spR K Slr) := by
  refine clR T.d__law_row sc_law_row (fun ds d h => by obtain ⟨_, _, _, rfl, _⟩ := h; rfl) fun f cdv A outer s H E hr => ?_
  refine ⟨_, (pss_one (ps_ret (pe_lc rfl sc_law_row.nd (own := [("_law_top_here", 2)]) (pi_list (pv 0)) (blkOk_by (by kernel_rfl)) (fun _ _ _ _ _ => (pg_name (i := 2) sc_law_row.nd rfl (by first | exact Or.inl rfl | exact Or.inr rfl))) (fun _ _ _ _ _ => pts_nil) (fun _ _ _ _ _ => (pcl c__law_share hr (by decide) rfl (pa_cons (pv 2) (pa_cons (pv 1) pa_nil))))))), fun ds d h => ?_⟩
  obtain ⟨ts, B, w, rfl, hB, hw, hl, rfl⟩ := h
  refine sd_ret (ed_is (ed_map ts D.int (fun t => sh (mkS t B)) (ei_list (ed_fz 0 rfl)) (by omega) fun t ht => ⟨[2], _, eg_name 2, by simp, ed_call (ea_cons (ed_fz 2 rfl) (ea_cons (ed_fz 1 rfl) ea_nil)) ⟨t, B, rfl, hB.1, Nat.lt_of_le_of_lt (log2_mono (Nat.le_of_lt (hB.mono hw).2)) (by decide +kernel), rfl⟩⟩) ?_)
  unfold shL rwS
  rw [List.map_map]; rfl
/-- the machine of these tops over these scales -/
def Slm (C : Addr) : List D → D → Prop := fun ds d => ∃ (x : Str) (b e : List Int) (ms : List (List (List Int))) (s0 s1 s2 : Int), ds = [.str x, topsD b ms e, intL [s0, s1, s2]] ∧ SgOk x ∧ ms.length = x.length ∧ b.length ≤ 12 ∧ e.length = b.length ∧ (∀ U ∈ ms, U.length = b.length ∧ ∀ r ∈ U, r.length = b.length) ∧ Bz s0 100 ∧ Bz s1 100 ∧ Bz s2 100 ∧
  d = .ins C (mcF x (rwS s0 b) (ms.map fun U => U.map (rwS s1)) (rwS s2 e))
theorem good_rw {B : Int} (h : 0 < B) (ts : List Int) : GoodR ts.length (rwS B ts) := ⟨by simp [rwS], fun p hp => by
  obtain ⟨t, _, rfl⟩ := List.mem_map.mp hp
  exact mkS_good (by omega)⟩

/-! ### sums, in plain Lean -/
theorem sum_add {α : Type} (l : List α) (f g : α → Int) : (l.map fun x => f x + g x).sum = (l.map f).sum + (l.map g).sum := by
  induction l with
  | nil => rfl
  | cons a l ih => simp only [List.map_cons, List.sum_cons, ih]; omega
theorem sum_mulL {α : Type} (l : List α) (c : Int) (f : α → Int) : (l.map fun x => c * f x).sum = c * (l.map f).sum := by
  induction l with
  | nil => simp
  | cons a l ih => simp only [List.map_cons, List.sum_cons, ih, Int.mul_add]
theorem sum_mulR {α : Type} (l : List α) (c : Int) (f : α → Int) : (l.map fun x => f x * c).sum = (l.map f).sum * c := by
  induction l with
  | nil => simp
  | cons a l ih => simp only [List.map_cons, List.sum_cons, ih, Int.add_mul]
theorem sum_zero {α : Type} (l : List α) : (l.map fun _ => (0 : Int)).sum = 0 := by
  induction l with
  | nil => rfl
  | cons a l ih => simp only [List.map_cons, List.sum_cons, ih]; rfl
theorem sum_comm {α β : Type} (l : List α) (m : List β) (f : α → β → Int) : (l.map fun x => (m.map fun y => f x y).sum).sum = (m.map fun y => (l.map fun x => f x y).sum).sum := by
  induction l with
  | nil => simp [sum_zero]
  | cons a l ih => simp only [List.map_cons, List.sum_cons, ih, sum_add]
theorem sum_flat {α β : Type} (l : List α) (f : α → List β) (g : β → Int) : ((l.flatMap f).map g).sum = (l.map fun x => ((f x).map g).sum).sum := by
  induction l with
  | nil => rfl
  | cons a l ih => simp only [List.flatMap_cons, List.map_append, List.sum_append, List.map_cons, List.sum_cons, ih]
theorem sum_congr {α : Type} {l : List α} {f g : α → Int} (h : ∀ x ∈ l, f x = g x) : (l.map f).sum = (l.map g).sum := by rw [List.map_congr_left h]
/-- places -/
def Sg (n : Nat) (f : Nat → Int) : Int := ((List.range n).map f).sum
theorem Sg_congr {n : Nat} {f g : Nat → Int} (h : ∀ i, i < n → f i = g i) : Sg n f = Sg n g := sum_congr fun i hi => h i (List.mem_range.mp hi)
theorem range_succ_map {α : Type} (n : Nat) (f : Nat → α) : (List.range (n + 1)).map f = f 0 :: (List.range n).map fun i => f (i + 1) := by
  rw [List.range_succ_eq_map, List.map_cons, List.map_map]
  rfl
theorem dot_Sg : ∀ {ts us : List Int}, ts.length = us.length → dot ts us = Sg ts.length fun i => ts.getD i 0 * us.getD i 0
  | [], [], _ => rfl
  | t :: ts, u :: us, h => by
    have h' : ts.length = us.length := by simpa using h
    show t * u + dot ts us = ((List.range (ts.length + 1)).map _).sum
    rw [range_succ_map, List.sum_cons, dot_Sg h']
    rfl
theorem map_getD {α β : Type} (l : List α) (f : α → β) (i : Nat) (a : α) (b : β) (h : i < l.length) : (l.map f).getD i b = f (l.getD i a) := by
  rw [getD_at (by simpa using h), getD_at h, List.getElem_map]
theorem range_getD {α : Type} (n : Nat) (f : Nat → α) (i : Nat) (a : α) (h : i < n) : ((List.range n).map f).getD i a = f i := by
  rw [getD_at (by simpa using h), List.getElem_map, List.getElem_range]
theorem of_getD {α : Type} (l : List α) (a : α) : l = (List.range l.length).map fun i => l.getD i a := by
  apply List.ext_getElem
  · simp
  · intro i h1 h2
    rw [List.getElem_map, List.getElem_range, getD_at h1]
/-- n by n -/
def Sq (n : Nat) (U : List (List Int)) : Prop := U.length = n ∧ ∀ r ∈ U, r.length = n
def at2 (U : List (List Int)) (i j : Nat) : Int := (U.getD i []).getD j 0
def tb (n : Nat) (f : Nat → Nat → Int) : List (List Int) := (List.range n).map fun i => (List.range n).map fun j => f i j
theorem tb_sq (n : Nat) (f : Nat → Nat → Int) : Sq n (tb n f) := ⟨by simp [tb], fun r hr => by
  obtain ⟨i, _, rfl⟩ := List.mem_map.mp hr
  simp⟩
theorem tb_congr {n : Nat} {f g : Nat → Nat → Int} (h : ∀ i j, i < n → j < n → f i j = g i j) : tb n f = tb n g :=
  List.map_congr_left fun i hi => List.map_congr_left fun j hj => h i j (List.mem_range.mp hi) (List.mem_range.mp hj)
theorem Sq.get {n : Nat} {U : List (List Int)} (h : Sq n U) {i : Nat} (hi : i < n) : U.getD i [] ∈ U ∧ (U.getD i []).length = n := by
  rw [getD_at (by rw [h.1]; exact hi)]
  exact ⟨List.getElem_mem _, h.2 _ (List.getElem_mem _)⟩
theorem Sq.tb {n : Nat} {U : List (List Int)} (h : Sq n U) : U = tb n (at2 U) := by
  have e := of_getD U []
  rw [h.1] at e
  rw [e]
  unfold Kx.tb
  refine List.map_congr_left fun i hi => ?_
  have hi' := List.mem_range.mp hi
  have l := (h.get hi').2
  have e2 := of_getD (U.getD i []) 0
  rw [l] at e2
  rw [e2]
  refine List.map_congr_left fun j hj => ?_
  unfold at2
  rw [range_getD _ _ _ _ hi']
theorem at2_tb {n : Nat} {f : Nat → Nat → Int} {i j : Nat} (hi : i < n) (hj : j < n) : at2 (tb n f) i j = f i j := by
  unfold at2 tb
  rw [range_getD _ _ _ _ hi, range_getD _ _ _ _ hj]
theorem ledI_len (r : List Int) (U : List (List Int)) : (ledI r U).length = r.length := by simp [ledI]
theorem ledI_at {n : Nat} {r : List Int} {U : List (List Int)} (hr : r.length = n) (h : U.length = n) {j : Nat} (hj : j < n) : (ledI r U).getD j 0 = Sg n fun i => r.getD i 0 * at2 U i j := by
  unfold ledI
  rw [hr, range_getD _ _ _ _ hj, dot_Sg (by rw [hr]; simp [colI, h]), hr]
  refine Sg_congr fun i hi => ?_
  unfold colI at2
  rw [map_getD U _ i [] 0 (by rw [h]; exact hi)]
theorem ext_getD {a b : List Int} (hl : a.length = b.length) (h : ∀ i, i < a.length → a.getD i 0 = b.getD i 0) : a = b := by
  rw [of_getD a 0, of_getD b 0, ← hl]
  exact List.map_congr_left fun i hi => h i (List.mem_range.mp hi)
/-- tables added -/
def addT (T U : List (List Int)) : List (List Int) := (T.zip U).map fun p => (p.1.zip p.2).map fun q => q.1 + q.2
theorem addT_tb {n : Nat} {f : Nat → Nat → Int} {U : List (List Int)} (h : Sq n U) : addT (tb n f) U = tb n fun i j => f i j + at2 U i j := by
  have e := h.tb
  rw [e]
  unfold addT
  have z : (tb n f).zip (tb n (at2 U)) = (List.range n).map fun i => ((List.range n).map (f i), (List.range n).map (at2 U i)) := by
    unfold tb
    rw [List.zip_map']
  rw [z, List.map_map, ← e]
  unfold tb
  refine List.map_congr_left fun i _ => ?_
  show (((List.range n).map (f i)).zip ((List.range n).map (at2 U i))).map (fun q => q.1 + q.2) = _
  rw [List.zip_map', List.map_map]
  rfl
def sumT (n : Nat) (ms : List (List (List Int))) : List (List Int) := tb n fun i j => (ms.map fun U => at2 U i j).sum
theorem foldl_addT {n : Nat} : ∀ (ms : List (List (List Int))) (f : Nat → Nat → Int), (∀ U ∈ ms, Sq n U) → ms.foldl addT (tb n f) = tb n fun i j => f i j + (ms.map fun U => at2 U i j).sum
  | [], f, _ => by simp
  | U :: ms, f, h => by
    rw [List.foldl_cons, addT_tb (h U List.mem_cons_self), foldl_addT ms _ fun V hV => h V (List.mem_cons_of_mem _ hV)]
    refine tb_congr fun i j _ _ => ?_
    simp only [List.map_cons, List.sum_cons]
    omega
theorem foldl_sumT {n : Nat} {ms : List (List (List Int))} (h : ∀ U ∈ ms, Sq n U) : ms.foldl addT (tb n fun _ _ => 0) = sumT n ms := by
  rw [foldl_addT ms _ h]
  exact tb_congr fun i j _ _ => by omega
/-- rows by words -/
def rowW (b : List Int) (ms : List (List (List Int))) (w : List Nat) : List Int := w.foldl (fun r i => ledI r (ms.getD i [])) b
theorem rowW_len (b : List Int) (ms : List (List (List Int))) (w : List Nat) : (rowW b ms w).length = b.length := by
  induction w generalizing b with
  | nil => rfl
  | cons i w ih =>
    show (rowW (ledI b (ms.getD i [])) ms w).length = b.length
    rw [ih, ledI_len]
theorem rowW_snoc (b : List Int) (ms : List (List (List Int))) (w : List Nat) (i : Nat) : rowW b ms (w ++ [i]) = ledI (rowW b ms w) (ms.getD i []) := by
  unfold rowW
  rw [List.foldl_append]
  rfl
def wds (m : Nat) : Nat → List (List Nat)
  | 0 => [[]]
  | n + 1 => (wds m n).flatMap fun w => (List.range m).map fun i => w ++ [i]
def rowR (b : List Int) (U : List (List Int)) : Nat → List Int
  | 0 => b
  | k + 1 => ledI (rowR b U k) U
theorem rowR_len (b : List Int) (U : List (List Int)) (k : Nat) : (rowR b U k).length = b.length := by
  induction k with
  | zero => rfl
  | succ k ih => show (ledI _ _).length = _; rw [ledI_len, ih]
theorem Sg_swap {α : Type} (l : List α) (n : Nat) (f : α → Nat → Int) : (l.map fun x => Sg n (f x)).sum = Sg n fun i => (l.map fun x => f x i).sum := sum_comm l (List.range n) f
theorem words_sum {n : Nat} {b : List Int} {ms : List (List (List Int))} (hb : b.length = n) (h : ∀ U ∈ ms, Sq n U) : ∀ (k j : Nat), j < n → ((wds ms.length k).map fun w => (rowW b ms w).getD j 0).sum = (rowR b (sumT n ms) k).getD j 0
  | 0, j, _ => by simp [wds, rowR, rowW]
  | k + 1, j, hj => by
    have ih := fun i (hi : i < n) => words_sum hb h k i hi
    show (((wds ms.length k).flatMap fun w => (List.range ms.length).map fun i => w ++ [i]).map fun w => (rowW b ms w).getD j 0).sum = (ledI (rowR b (sumT n ms) k) (sumT n ms)).getD j 0
    rw [sum_flat, ledI_at (by rw [rowR_len, hb]) (show (sumT n ms).length = n from (tb_sq n _).1) hj]
    have e1 : ∀ w, (((List.range ms.length).map fun i => w ++ [i]).map fun w => (rowW b ms w).getD j 0).sum = Sg n fun i => (rowW b ms w).getD i 0 * (ms.map fun U => at2 U i j).sum := fun w => by
      rw [List.map_map]
      have e2 : ((List.range ms.length).map ((fun w => (rowW b ms w).getD j 0) ∘ fun i => w ++ [i])).sum = ((List.range ms.length).map fun c => Sg n fun i => (rowW b ms w).getD i 0 * at2 (ms.getD c []) i j).sum := sum_congr fun c hc => by
        show (rowW b ms (w ++ [c])).getD j 0 = _
        have hc' := List.mem_range.mp hc
        rw [rowW_snoc, ledI_at (by rw [rowW_len, hb]) _ hj]
        rw [getD_at hc']
        exact (h _ (List.getElem_mem hc')).1
      rw [e2, Sg_swap]
      refine Sg_congr fun i hi => ?_
      rw [sum_mulL]
      congr 1
      have e3 := of_getD ms []
      have e4 : (ms.map fun U => at2 U i j) = (List.range ms.length).map fun c => at2 (ms.getD c []) i j := by
        conv => lhs; rw [e3]
        rw [List.map_map]
        rfl
      rw [e4]
    rw [sum_congr fun w _ => e1 w, Sg_swap]
    refine Sg_congr fun i hi => ?_
    rw [sum_mulR, ih i hi, show at2 (sumT n ms) i j = _ from at2_tb hi hj]
theorem words_dot {n : Nat} {b e : List Int} {ms : List (List (List Int))} (hb : b.length = n) (he : e.length = n) (h : ∀ U ∈ ms, Sq n U) (k : Nat) : ((wds ms.length k).map fun w => dot (rowW b ms w) e).sum = dot (rowR b (sumT n ms) k) e := by
  rw [dot_Sg (by rw [rowR_len, hb, he]), rowR_len, hb]
  have e1 : ∀ w, dot (rowW b ms w) e = Sg n fun i => (rowW b ms w).getD i 0 * e.getD i 0 := fun w => by rw [dot_Sg (by rw [rowW_len, hb, he]), rowW_len, hb]
  rw [sum_congr fun w _ => e1 w, Sg_swap]
  refine Sg_congr fun i hi => ?_
  rw [sum_mulR, words_sum hb h k i hi]

/-! ### the law's signs -/
def word (l : List Nat) : Str := ⟨l.toArray⟩
theorem word_list (l : List Nat) : (word l).cps.toList = l := by simp [word]
theorem word_len (l : List Nat) : (word l).length = l.length := by show l.toArray.size = _; simp
theorem word_add (l m : List Nat) : word l ++ word m = word (l ++ m) := by
  show (⟨l.toArray ++ m.toArray⟩ : Str) = ⟨(l ++ m).toArray⟩
  simp
theorem sgn_word (l : List Nat) : sgn (word l) = l.map fun c => D.str (word [c]) := by
  unfold sgn
  rw [word_list]
  rfl
theorem join_ones0 : ∀ l : List Nat, Str.join "" (l.map fun c => word [c]) = word l
  | [] => rfl
  | [c] => rfl
  | c :: d :: l => by
    have ih := join_ones0 (d :: l)
    show word [c] ++ word [] ++ Str.join "" ((d :: l).map fun c => word [c]) = _
    rw [ih, word_add, word_add]
    rfl
theorem join_ones (l : List Nat) : Txt.join "" (l.map fun c => word [c]) = word l := (PySem.StrLaws.glued_eq_join _ _).trans (join_ones0 l)
def alph : Str := "abcdefghijklmnopqrstuvwxyz"
theorem alph_list : alph.cps.toList = List.range' 97 26 := by decide +kernel
theorem alph_at {i : Nat} (h : i < 26) : atI alph.cps.toList (i : Int) = some (97 + i) := by
  rw [alph_list, atI_nat' (by simpa using h)]
  simp
def sgF (c : Int) : Nat := (c / 6 % 20).toNat
def sgS (c : Int) : Nat := (1 + c / 120 % 3).toNat
def sgN (c : Int) : Nat := ([2, 1, 2, 0, 2, 2] : List Nat).getD (c % 6).toNat 0
def sgL (c : Int) : List Nat := (List.range (sgN c)).map fun k => 97 + sgF c + sgS c * k
theorem sgN_le (c : Int) : sgN c ≤ 2 := by
  unfold sgN
  have : (c % 6).toNat < 6 := by omega
  generalize (c % 6).toNat = j at this
  have : j = 0 ∨ j = 1 ∨ j = 2 ∨ j = 3 ∨ j = 4 ∨ j = 5 := by omega
  rcases this with rfl | rfl | rfl | rfl | rfl | rfl <;> decide
theorem sgL_len (c : Int) : (sgL c).length = sgN c := by simp [sgL]
theorem sgL_ok (c : Int) : SgOk (word (sgL c)) := by
  have h1 := sgN_le c
  have f : sgF c < 20 := by unfold sgF; omega
  have s : 1 ≤ sgS c ∧ sgS c ≤ 3 := by unfold sgS; omega
  refine ⟨by rw [word_len, sgL_len]; omega, ?_, fun x hx => ?_⟩
  · rw [word_list]
    unfold sgL
    generalize sgN c = n at h1
    have : n = 0 ∨ n = 1 ∨ n = 2 := by omega
    rcases this with rfl | rfl | rfl
    · exact List.Pairwise.nil
    · exact List.pairwise_singleton _ _
    · show List.Pairwise (· < ·) [97 + sgF c + sgS c * 0, 97 + sgF c + sgS c * 1]
      simp
      omega
  · rw [word_list] at hx
    obtain ⟨k, hk, rfl⟩ := List.mem_map.mp hx
    have hk' := List.mem_range.mp hk
    have : sgS c * k ≤ 3 * 1 := Nat.mul_le_mul s.2 (by omega)
    omega
def Ssn : List D → D → Prop := fun ds d => ∃ c : Int, ds = [.int c] ∧ d = .str (word (sgL c))
theorem ok_signs (T : Tx K mg a_WeighError a_Nought a_NoText a_NoRow a_NoMachine a_NoWord a_OtherSigns a_TooMany a_Machine a_NONE) : Cl P w K mg base CX0 1 "_law_signs" (spR K Ssn) := by
  refine clR T.d__law_signs sc_law_signs (fun ds d h => by obtain ⟨a, rfl, _⟩ := h; rfl) fun f cdv A outer s H E hr => ?_
  refine ⟨_, (pss_cons (ps_set (i := 1) sc_law_signs.nd rfl (by first | exact Or.inl rfl | exact Or.inr rfl) pe_str)
  (pss_cons (ps_set (i := 2) sc_law_signs.nd rfl (by first | exact Or.inl rfl | exact Or.inr rfl) (pe_op op_mod (pe_op opFd (pv 0) pe_int) pe_int))
  (pss_cons (ps_set (i := 3) sc_law_signs.nd rfl (by first | exact Or.inl rfl | exact Or.inr rfl) (pe_op opAdd pe_int (pe_op op_mod (pe_op opFd (pv 0) pe_int) pe_int)))
  (pss_one (ps_ret (pe_join pe_str (pe_lc rfl sc_law_signs.nd (own := [("_law_k", 4)]) (pi_range1 rfl T.n_range (pa_cons (pe_ix ix_seq (pe_lst (pa_cons pe_int (pa_cons pe_int (pa_cons pe_int (pa_cons pe_int (pa_cons pe_int (pa_cons pe_int pa_nil))))))) (pe_op op_mod (pv 0) pe_int) (fun _ _ => rfl)) pa_nil)) (blkOk_by (by kernel_rfl)) (fun _ _ _ _ _ => (pg_name (i := 4) sc_law_signs.nd rfl (by first | exact Or.inl rfl | exact Or.inr rfl))) (fun _ _ _ _ _ => pts_nil) (fun _ _ _ _ _ => (pe_ix (ix_seqK (K := K) rfl) (pv 1) (pe_op opAdd (pv 2) (pe_op opMul (pv 3) (pv 4))) (fun _ _ => rfl)))))))))), fun ds d h => ?_⟩
  obtain ⟨c, rfl, rfl⟩ := h
  refine sd_seq (Γ1 := [.fz (.int c), .fz (.str alph), .no, .no, .no]) (sd_set 1 (ed_str _)) ?_
  refine sd_seq (Γ1 := [.fz (.int c), .fz (.str alph), .fz (.int (sgF c : Nat)), .no, .no]) (sd_set 2 (ed_is (ed_op (ed_op (ed_fz 0 rfl) (ed_int 6) (r2_fdP (by decide))) (ed_int 20) (r2_mod (by decide))) (congrArg D.int (by unfold sgF; omega)))) ?_
  refine sd_seq (Γ1 := [.fz (.int c), .fz (.str alph), .fz (.int (sgF c : Nat)), .fz (.int (sgS c : Nat)), .no]) (sd_set 3 (ed_is (ed_op (ed_int 1) (ed_op (ed_op (ed_fz 0 rfl) (ed_int 120) (r2_fdP (by decide))) (ed_int 3) (r2_mod (by decide))) r2_addI) (congrArg D.int (by unfold sgS; omega)))) ?_
  have f : sgF c < 20 := by unfold sgF; omega
  have s3 : 1 ≤ sgS c ∧ sgS c ≤ 3 := by unfold sgS; omega
  have n2 := sgN_le c
  have hn : atI [D.int 2, .int 1, .int 2, .int 0, .int 2, .int 2] (c % 6) = some (.int (sgN c : Nat)) := by
    obtain ⟨j, hj⟩ : ∃ j : Nat, c % 6 = j := ⟨(c % 6).toNat, by omega⟩
    unfold sgN
    rw [hj, Int.toNat_natCast]
    have : j = 0 ∨ j = 1 ∨ j = 2 ∨ j = 3 ∨ j = 4 ∨ j = 5 := by omega
    rcases this with rfl | rfl | rfl | rfl | rfl | rfl <;> rfl
  refine sd_ret (ed_is (ed_join (ys := (sgL c).map fun x => word [x]) (ed_str _) (ed_is (ed_rg (sgN c) (fun k => .str (word [97 + sgF c + sgS c * k])) 4 (by decide) (ed_op (ed_lst (ea_cons (ed_int 2) (ea_cons (ed_int 1) (ea_cons (ed_int 2) (ea_cons (ed_int 0) (ea_cons (ed_int 2) (ea_cons (ed_int 2) ea_nil))))))) (ed_op (ed_fz 0 rfl) (ed_int 6) (r2_mod (by decide))) (r2_ixL hn)) (by omega) fun k hk => ?_) ?_) ?_) ?_)
  · have b : sgS c * k ≤ 3 * 1 := Nat.mul_le_mul s3.2 (by omega)
    refine ed_is (ed_op (ed_fz 1 rfl) (ed_is (ed_op (ed_fz 2 rfl) (ed_op (ed_fz 3 rfl) (ed_fz 4 rfl) (r2_mulI (CBig.of (a := 2) (b := 2) (by omega) (by omega) (by decide) (by decide) (by decide)))) r2_addI) (congrArg D.int (show _ = ((sgF c + sgS c * k : Nat) : Int) by push_cast; rfl))) (r2_ixS (c := 97 + (sgF c + sgS c * k)) (by decide +kernel) (alph_at (by omega)))) ?_
    rw [← Nat.add_assoc]
    rfl
  · unfold sgL; rw [List.map_map, List.map_map]; rfl
  · have : ((sgL c).map fun x => word [x]).length ≤ 2 := by rw [List.length_map, sgL_len]; exact n2
    have e : (((sgL c).map fun x => word [x]).map (·.length)).sum = (sgL c).length := by
      rw [List.map_map]
      generalize sgL c = l
      induction l with
      | nil => rfl
      | cons a l ih => simp only [List.map_cons, List.sum_cons, ih, List.length_cons]; show 1 + _ = _; omega
    rw [e, sgL_len]
    show _ + _ * 0 ≤ _
    omega
  · rw [join_ones]

/-! ### both_tables, summed -/
theorem zp_map {α β : Type} (f : α → D) (g : β → D) (xs : List α) (ys : List β) : zp (xs.map f) (ys.map g) = (xs.zip ys).map fun p => D.tup [f p.1, g p.2] := by
  unfold zp
  rw [List.zip_map, List.map_map] <;> rfl
def Nt (U : List (List Int)) (w : Nat) : Prop := ∀ r ∈ U, Nz r w
/-- sizes of the law's machines -/
structure Mz (n : Nat) (b e : List Int) (ms : List (List (List Int))) (s0 s1 s2 : Int) : Prop where
  few : n ≤ 12
  bl : b.length = n
  el : e.length = n
  ml : ms.length ≤ 6
  sq : ∀ U ∈ ms, Sq n U
  nb : Nz b 14
  ne : Nz e 14
  nm : ∀ U ∈ ms, Nt U 14
  z0 : Bz s0 10
  z1 : Bz s1 7
  z2 : Bz s2 10
theorem sum_le {α : Type} {l : List α} {f : α → Int} {m : Nat} (h : ∀ x ∈ l, (f x).natAbs ≤ m) : (l.map f).sum.natAbs ≤ l.length * m := by
  induction l with
  | nil => simp
  | cons a l ih =>
    have z := ih fun x hx => h x (List.mem_cons_of_mem _ hx)
    have y := h a List.mem_cons_self
    simp only [List.map_cons, List.sum_cons, List.length_cons, Nat.add_mul, Nat.one_mul]
    have := Int.natAbs_add_le (f a) (l.map f).sum
    omega
theorem at2_lt {n w : Nat} {U : List (List Int)} (h : Sq n U) (hw : Nt U w) {i j : Nat} (hi : i < n) (hj : j < n) : (at2 U i j).natAbs < 2 ^ w := by
  obtain ⟨a, b⟩ := h.get hi
  unfold at2
  generalize U.getD i [] = r at a b
  rw [getD_at (by omega)]
  exact hw r a _ (List.getElem_mem _)
theorem nt_tb {n w : Nat} {f : Nat → Nat → Int} (h : ∀ i j, i < n → j < n → (f i j).natAbs < 2 ^ w) : Nt (tb n f) w := fun r hr t ht => by
  obtain ⟨i, hi, rfl⟩ := List.mem_map.mp hr
  obtain ⟨j, hj, rfl⟩ := List.mem_map.mp ht
  exact h i j (List.mem_range.mp hi) (List.mem_range.mp hj)
theorem nt_sumT {n : Nat} {ms : List (List (List Int))} (hs : ∀ U ∈ ms, Sq n U) (hl : ms.length ≤ 6) (h : ∀ U ∈ ms, Nt U 14) : Nt (sumT n ms) 17 := nt_tb fun i j hi hj => by
  have z := sum_le (l := ms) (f := fun U => at2 U i j) (m := 2 ^ 14) fun U hU => Nat.le_of_lt (at2_lt (hs U hU) (h U hU) hi hj)
  have : ms.length * 2 ^ 14 ≤ 6 * 2 ^ 14 := Nat.mul_le_mul_right _ hl
  omega
theorem nz_ledI {n w v : Nat} {r : List Int} {U : List (List Int)} (hr : r.length = n) (hn : n ≤ 15) (h : Sq n U) (a : Nz r w) (b : Nt U v) : Nz (ledI r U) (w + v + 4) := fun t ht => by
  obtain ⟨j, hj, rfl⟩ := List.mem_map.mp ht
  have hj' := List.mem_range.mp hj
  refine dot_lt16 a (fun x hx => ?_) (by omega)
  obtain ⟨q, hq, rfl⟩ := List.mem_map.mp hx
  rw [getD_at (by rw [h.2 q hq]; omega)]
  exact b q hq _ (List.getElem_mem _)
theorem nz_rowR {n v : Nat} {b : List Int} {U : List (List Int)} (hb : b.length = n) (hn : n ≤ 15) (h : Sq n U) (a : Nz b 14) (c : Nt U v) (k : Nat) : Nz (rowR b U k) (14 + (v + 4) * k) := by
  induction k with
  | zero => exact a
  | succ k ih =>
    have z := nz_ledI (by rw [rowR_len, hb]) hn h ih c
    have e : 14 + (v + 4) * (k + 1) = 14 + (v + 4) * k + v + 4 := by rw [Nat.mul_add]; omega
    rw [e]
    exact z
theorem bz_pow {s0 s1 : Int} (h0 : Bz s0 10) (h1 : Bz s1 7) (k : Nat) : Bz (s0 * s1 ^ k) (10 + 7 * k) := by
  induction k with
  | zero => rw [Int.pow_zero, Int.mul_one]; exact h0
  | succ k ih =>
    rw [Int.pow_succ, ← Int.mul_assoc]
    exact ih.mul h1
def mcI (x : Str) (b e : List Int) (ms : List (List (List Int))) (s0 s1 s2 : Int) : List (Str × D) := mcF x (rwS s0 b) (ms.map fun U => U.map (rwS s1)) (rwS s2 e)

/-! ### the law's led, top_of, bottom, words -/
theorem atI_map {α : Type} (l : List α) (f : α → D) (a : α) {i : Nat} (h : i < l.length) : atI (l.map f) (i : Int) = some (f (l.getD i a)) := by
  rw [atI_nat' (by simpa using h), List.getElem_map, getD_at h]
def Sll : List D → D → Prop := fun ds d => ∃ (r : List Int) (U : List (List Int)) (n w v : Nat), ds = [intL r, tabI U] ∧ r.length = n ∧ Sq n U ∧ n ≤ 15 ∧ Nz r w ∧ Nt U v ∧ 0 < w ∧ 0 < v ∧ w + v ≤ 1000000 ∧ d = intL (ledI r U)
theorem dot_zip : ∀ ts us : List Int, ((ts.zip us).map fun q => q.1 * q.2).sum = dot ts us
  | [], _ => by simp [dot]
  | _ :: _, [] => by simp [dot]
  | t :: ts, u :: us => by
    simp only [List.zip_cons_cons, List.map_cons, List.sum_cons, dot, dot_zip ts us]
/-- sum([x * y for x, y in zip(a, b)]) -/
theorem ed_dot {Γ : Gam} {ta tb : TE} {x y : Nat} {r e : List Int} {w v : Nat} (ha : Ed K ta Γ (intL r)) (hb : Ed K tb Γ (intL e)) (hx : ∀ t u : Int, (((wipeG Γ [x, y]).set x (.fz (.int t))).set y (.fz (.int u)))[x]? = some (.fz (.int t)) ∧ (((wipeG Γ [x, y]).set x (.fz (.int t))).set y (.fz (.int u)))[y]? = some (.fz (.int u)))
    (hl : r.length ≤ 100000) (nr : Nz r w) (ne : Nz e v) (pw : 0 < w) (pv' : 0 < v) (h : w + v ≤ 1000000) :
    Ed K (tCB (rSum K) (tCons (tLc (iZip K (tCons ta (tCons tb tNil))) (gTup K 2 (gCons (gName x) (gCons (gName y) gNil))) tYes (tOp rMulA (tVar x) (tVar y)) [x, y]) tNil)) Γ (.int (dot r e)) := by
  refine ed_is (ed_cb (ea_cons (ed_is (ed_map (r.zip e) (fun q => .tup [.int q.1, .int q.2]) (fun q => .int (q.1 * q.2)) (Ei.is (ei_zip (ea_cons ha (ea_cons hb ea_nil))) (zp_map _ _ r e)) (by rw [List.length_zip]; omega) fun q hq => ⟨[x, y], _, eg_tup (egs_cons (eg_name x) (egs_cons (eg_name y) egs_nil)) rfl, by simp, ed_op (ed_fz x (hx _ _).1) (ed_fz y (hx _ _).2) (r2_mulI (CBig.of (nr _ (List.of_mem_zip hq).1) (ne _ (List.of_mem_zip hq).2) pw pv' (by omega)))⟩) (show _ = D.lst (((r.zip e).map fun q => q.1 * q.2).map D.int) from ?_)) ea_nil) rc_sum) (congrArg D.int (dot_zip r e))
  rw [List.map_map]; rfl
theorem nz_rowW {n : Nat} {b : List Int} {ms : List (List (List Int))} (hb : b.length = n) (hn : n ≤ 15) (h : ∀ U ∈ ms, Sq n U) (a : Nz b 14) (c : ∀ U ∈ ms, Nt U 14) (l : List Nat) (hl : ∀ i ∈ l, i < ms.length) : Nz (rowW b ms l) (14 + 18 * l.length) := by
  suffices main : ∀ (l : List Nat) (b : List Int) (w : Nat), b.length = n → Nz b w → (∀ i ∈ l, i < ms.length) → Nz (rowW b ms l) (w + 18 * l.length) from main l b 14 hb a hl
  intro l
  induction l with
  | nil => exact fun b w _ a _ => a
  | cons i l ih =>
    intro b w hb a hi
    have hm : ms.getD i [] ∈ ms := by
      rw [getD_at (hi i List.mem_cons_self)]
      exact List.getElem_mem _
    have z := ih (ledI b (ms.getD i [])) (w + 14 + 4) (by rw [ledI_len, hb]) (nz_ledI hb hn (h _ hm) a (c _ hm)) fun x hx => hi x (List.mem_cons_of_mem _ hx)
    show Nz (rowW (ledI b (ms.getD i [])) ms l) (w + 18 * (l.length + 1))
    rw [show w + 18 * (l.length + 1) = w + 14 + 4 + 18 * l.length by omega]
    exact z
/-- the text of a word of places -/
def txt (L : List Nat) (w : List Nat) : Str := word (w.map fun i => L.getD i 0)
theorem asc_index {L : List Nat} (h : L.Pairwise (· < ·)) {k : Nat} (hk : k < L.length) : Txt.index0 (word L) (word [L.getD k 0]) = some k := by
  have e : L[k]? = some (L.getD k 0) := by rw [getD_at hk]; exact List.getElem?_eq_getElem hk
  refine index0_one (c := L.getD k 0) (by rw [word_list]; exact e) fun j hj => ?_
  rw [word_list]
  intro z
  have z2 : L.getD j 0 = L.getD k 0 := by
    have hj' : j < L.length := by omega
    rw [List.getElem?_eq_getElem hj'] at z
    rw [getD_at hj']
    exact Option.some.inj z
  have z3 := List.pairwise_iff_getElem.mp h j k (by omega) hk hj
  rw [getD_at hk, getD_at (by omega)] at z2
  omega
def Slt : List D → D → Prop := fun ds d => ∃ (L : List Nat) (b e : List Int) (ms : List (List (List Int))) (s0 s1 s2 : Int) (n : Nat) (l : List Nat), ds = [topsD b ms e, .str (word L), .str (txt L l)] ∧ L.Pairwise (· < ·) ∧ L.length = ms.length ∧ Mz n b e ms s0 s1 s2 ∧ (∀ i ∈ l, i < ms.length) ∧ l.length ≤ 1000 ∧ d = .int (dot (rowW b ms l) e)
def Slb : List D → D → Prop := fun ds d => ∃ (s0 s1 s2 : Int) (n : Nat), ds = [intL [s0, s1, s2], .int n] ∧ Bz s0 10 ∧ Bz s1 7 ∧ Bz s2 10 ∧ n ≤ 1000 ∧ d = .int (s0 * s2 * s1 ^ n)

/-! ### the drawn machine's sizes -/
theorem mz_of {ns : List Int} {first k many : Nat} {c : Int} {s0 s1 s2 : Int} (hm : many ≤ 12) (hk : k ≤ 6) (z0 : Bz s0 10) (z1 : Bz s1 7) (z2 : Bz s2 10) : Mz many (tB ns first many) (tE ns first many) (tMs ns first k many) s0 s1 s2 where
  few := hm
  bl := by simp [tB]
  el := by simp [tE]
  ml := by simpa [tMs] using hk
  sq := fun U hU => by
    obtain ⟨p, _, rfl⟩ := List.mem_map.mp hU
    exact tb_sq many _
  nb := fun t ht => by
    obtain ⟨p, _, rfl⟩ := List.mem_map.mp ht
    exact topC_lt _
  ne := fun t ht => by
    obtain ⟨p, _, rfl⟩ := List.mem_map.mp ht
    exact topC_lt _
  nm := fun U hU => by
    obtain ⟨p, _, rfl⟩ := List.mem_map.mp hU
    exact nt_tb fun i j _ _ => topC_lt _
  z0 := z0
  z1 := z1
  z2 := z2

/-! ### row_of, weight of any machine over common bottoms -/
theorem map_all_true {α : Type} (xs : List α) (f : α → Bool) (h : ∀ x ∈ xs, f x = true) : (xs.map f).all id = true := by
  rw [List.all_map, List.all_eq_true]
  exact h
/-- sizes: q bits -/
structure Mq (q n : Nat) (b e : List Int) (ms : List (List (List Int))) (s0 s1 s2 : Int) : Prop where
  few : n ≤ 12
  hq : 0 < q ∧ q ≤ 100
  bl : b.length = n
  el : e.length = n
  ml : ms.length ≤ 6
  sq : ∀ U ∈ ms, Sq n U
  nb : Nz b q
  ne : Nz e q
  nm : ∀ U ∈ ms, Nt U q
  z0 : Bz s0 q
  z1 : Bz s1 q
  z2 : Bz s2 q
theorem Mz.mq {n : Nat} {b e : List Int} {ms : List (List (List Int))} {s0 s1 s2 : Int} (M : Mz n b e ms s0 s1 s2) : Mq 14 n b e ms s0 s1 s2 := ⟨M.few, by decide, M.bl, M.el, M.ml, M.sq, M.nb, M.ne, M.nm, M.z0.mono (by decide), M.z1.mono (by decide), M.z2.mono (by decide)⟩
theorem nz_rowQ {q n : Nat} {b : List Int} {ms : List (List (List Int))} (hb : b.length = n) (hn : n ≤ 15) (h : ∀ U ∈ ms, Sq n U) (a : Nz b q) (c : ∀ U ∈ ms, Nt U q) (l : List Nat) (hl : ∀ i ∈ l, i < ms.length) : Nz (rowW b ms l) (q + (q + 4) * l.length) := by
  suffices main : ∀ (l : List Nat) (b : List Int) (w : Nat), b.length = n → Nz b w → (∀ i ∈ l, i < ms.length) → Nz (rowW b ms l) (w + (q + 4) * l.length) from main l b q hb a hl
  intro l
  induction l with
  | nil => exact fun b w _ a _ => a
  | cons i l ih =>
    intro b w hb a hi
    have hm : ms.getD i [] ∈ ms := by
      rw [getD_at (hi i List.mem_cons_self)]
      exact List.getElem_mem _
    have z := ih (ledI b (ms.getD i [])) (w + q + 4) (by rw [ledI_len, hb]) (nz_ledI hb hn (h _ hm) a (c _ hm)) fun x hx => hi x (List.mem_cons_of_mem _ hx)
    show Nz (rowW (ledI b (ms.getD i [])) ms l) (w + (q + 4) * (l.length + 1))
    rw [show w + (q + 4) * (l.length + 1) = w + q + 4 + (q + 4) * l.length by rw [Nat.mul_add]; omega]
    exact z
theorem bz_powQ {s0 s1 : Int} {q : Nat} (h0 : Bz s0 q) (h1 : Bz s1 q) (k : Nat) : Bz (s0 * s1 ^ k) (q + q * k) := by
  induction k with
  | zero => rw [Int.pow_zero, Int.mul_one]; exact h0
  | succ k ih =>
    rw [Int.pow_succ, ← Int.mul_assoc, show q + q * (k + 1) = q + q * k + q by rw [Nat.mul_add]; omega]
    exact ih.mul h1
structure Wd (C : Addr) (ds : List D) (L : List Nat) (b e : List Int) (ms : List (List (List Int))) (s0 s1 s2 : Int) (q n : Nat) (l : List Nat) : Prop where
  ds : ds = [.ins C (mcI (word L) b e ms s0 s1 s2), .str (txt L l)]
  asc : L.Pairwise (· < ·)
  len : L.length = ms.length
  M : Mq q n b e ms s0 s1 s2
  il : ∀ i ∈ l, i < ms.length
  few : l.length ≤ 12
theorem wd_row {C : Addr} {ds L b e ms s0 s1 s2 q n l} (W : Wd C ds L b e ms s0 s1 s2 q n l) (k : Nat) (hk : k ≤ 12) : Bz (s0 * s1 ^ k) 1400 ∧ Nz (rowW b ms (l.take k)) 1400 := by
  obtain ⟨q0, q1⟩ := W.M.hq
  have h1 : q * k ≤ 100 * 12 := Nat.mul_le_mul q1 hk
  have h2 : (q + 4) * (l.take k).length ≤ 104 * 12 := Nat.mul_le_mul (by omega) (by rw [List.length_take]; omega)
  exact ⟨(bz_powQ W.M.z0 W.M.z1 k).mono (by omega), (nz_rowQ W.M.bl (by have := W.M.few; omega) W.M.sq W.M.nb W.M.nm (l.take k) fun x hx => W.il x (List.mem_of_mem_take hx)).mono (by omega)⟩

/-! ### row_of and weight, of good words and of what is none -/
def Sro (C : Addr) : List D → List D → Prop := fun ds es => ∃ L b e ms s0 s1 s2 q n l, Wd C ds L b e ms s0 s1 s2 q n l ∧ es = (rwS (s0 * s1 ^ l.length) (rowW b ms l)).map sh
def Swt (C : Addr) : List D → D → Prop := fun ds d => ∃ L b e ms s0 s1 s2 q n l, Wd C ds L b e ms s0 s1 s2 q n l ∧ d = sh (mkS (dot (rowW b ms l) e) (s0 * s1 ^ l.length * s2))
def BadW (x : Str) (o : D) : Prop := Kd o ∧ (isSt o = false ∨ ∃ l, o = .str (word l) ∧ l.length ≤ 1000 ∧ ∃ c ∈ l, c ∉ x.cps.toList)
def Tro (C Cw : Addr) : List D → Addr → Prop := fun ds c => ∃ x b m e o, ds = [.ins C (mcF x b m e), o] ∧ BadW x o ∧ c = Cw
theorem all_false {α : Type} (xs : List α) (f : α → Bool) (h : ∃ x ∈ xs, f x = false) : (xs.map f).all id = false := by
  obtain ⟨x, hx, hf⟩ := h
  rw [List.all_map, List.all_eq_false]
  exact ⟨x, hx, by show ¬ f x = true; rw [hf]; decide⟩
theorem ok_row_ofX (T : Tx K mg a_WeighError a_Nought a_NoText a_NoRow a_NoMachine a_NoWord a_OtherSigns a_TooMany a_Machine a_NONE) (c_led : Cl P w K mg base CX0 5 "led" (spW K Sld)) : Cl P w K mg base (L2.CX P w) 6 "row_of" (spXW K (Sro a_Machine) (Tro a_Machine a_NoWord)) := by
  refine clXW T.d_row_of sc_row_of (fun ds d h => by obtain ⟨_, _, _, _, _, _, _, _, _, _, h, _⟩ := h; rw [h.ds]; rfl) (fun ds c h => by obtain ⟨_, _, _, _, _, rfl, _⟩ := h; rfl) fun f cdv A outer s H E hr => ?_
  refine ⟨_, (pss_cons (ps_if (PW.pt (pw_or (pt_not (pt_val (pe_callB call_isi (by rfl) T.n_isinstance bt_isinstance (pa_cons (pv 1) (pa_cons (pe_bltn (v := .ty "str") (by rfl) T.n_str bt_str rfl) pa_nil))))) (pw_or1 (pt_not (pt_val (pe_callB (cr_all rfl) (by rfl) T.n_all bt_all (pa_cons (pe_lc rfl sc_row_of.nd (own := [("sign", 2)]) (pi_str (pv 1)) (blkOk_by (by kernel_rfl)) (fun _ _ _ _ _ => (pg_name (i := 2) sc_row_of.nd rfl (by first | exact Or.inl rfl | exact Or.inr rfl))) (fun _ _ _ _ _ => pts_nil) (fun _ _ _ _ _ => (pe_cmpR op_in_sign (pv 2) (pe_cast (pe_fld (pv 0) rfl) (rfl : _ = tFld K _ _)) (by with_unfolding_all rfl)))) pa_nil)))))))
  (pss_one (ps_raise rfl (takes_of rfl rfl rfl rfl) (pmk_own PySem.F.excBase_ValueError T.x_NoWord T.m_NoWord T.k_NoWord (raises_own T.b_NoWord T.t_NoWord) rfl)))
  pss_nil)
  (pss_cons (ps_set (i := 3) sc_row_of.nd rfl (by first | exact Or.inl rfl | exact Or.inr rfl) (pe_callTy callList (by rfl) T.n_list bt_list (pa_cons (pe_fld (pv 0) rfl) pa_nil)))
  (pss_cons (ps_for (passes_of rfl) rfl (pi_str (pv 1)) (pg_name (i := 2) sc_row_of.nd rfl (by first | exact Or.inl rfl | exact Or.inr rfl))
  (pss_one (ps_set (i := 3) sc_row_of.nd rfl (by first | exact Or.inl rfl | exact Or.inr rfl) (pcl c_led hr (by decide) rfl (pa_cons (pv 3) (pa_cons (pe_ix ix_seq (pe_fld (pv 0) rfl) (pe_m1 PySem.F.slot_str_index PySem.F.type_str_index mt_indexC (pe_fld (pv 0) rfl) (pv 2)) (fun _ _ => rfl)) pa_nil))))))
  (pss_one (ps_ret (pv 3)))))), fun ds d h => ?_, fun ds c h => ?_⟩
  · obtain ⟨L, b, e, ms, s0, s1, s2, q, n, l, W, rfl⟩ := h
    obtain ⟨rfl, hL, hm, M, hl, hf⟩ := id W
    have n12 := M.few
    obtain ⟨q0, q1⟩ := M.hq
    let me : D := .ins a_Machine (mcI (word L) b e ms s0 s1 s2)
    have fS : ∀ {Γ : Gam}, Γ[0]? = some (.fz me) → Ed K (tFld K (tVar 0) "signs") Γ (.str (word L)) := fun {Γ} h => ed_fld (ed_fz 0 h) T.cl_Machine T.na_Machine_signs rfl
    have fB : ∀ {Γ : Gam}, Γ[0]? = some (.fz me) → Ed K (tFld K (tVar 0) "begins") Γ (shL (rwS s0 b)) := fun {Γ} h => ed_fld (ed_fz 0 h) T.cl_Machine T.na_Machine_begins rfl
    have fM : ∀ {Γ : Gam}, Γ[0]? = some (.fz me) → Ed K (tFld K (tVar 0) "moves") Γ (.lst ((ms.map fun U => U.map (rwS s1)).map tabL)) := fun {Γ} h => ed_fld (ed_fz 0 h) T.cl_Machine T.na_Machine_moves rfl
    have es : sgn (txt L l) = l.map fun i => D.str (word [L.getD i 0]) := by
      unfold txt
      rw [sgn_word, List.map_map]; rfl
    refine sd_seq (Γ1 := [.fz me, .fz (.str (txt L l)), .no, .no]) (sd_ifF (et_orF (et_nF (et_B (ed_cb (ea_cons (ed_fz 1 rfl) (ea_cons (ed_ty _) ea_nil)) (rc_isi rfl (by decide +kernel))))) (et_nF (et_B (ed_is (ed_cb (ea_cons (ed_is (ed_map l (fun i => D.str (word [L.getD i 0])) (fun i => .bl (decide (L.getD i 0 ∈ L))) (Ei.is (ei_str (ed_fz 1 rfl)) es) (by omega) fun i hi => ⟨[2], _, eg_name 2, by simp, ed_is (ed_op (ed_fz 2 rfl) (fS rfl) (r2_in (c := L.getD i 0))) (by rw [word_list])⟩) (show _ = D.lst ((l.map fun i => decide (L.getD i 0 ∈ L)).map D.bl) from ?_)) ea_nil) rc_all) (congrArg D.bl (map_all_true _ _ ?_)))))) sd_next) ?_
    · rw [List.map_map] <;> rfl
    · intro i hi
      have hi' : i < L.length := by rw [hm]; exact hl i hi
      rw [getD_at hi']
      exact decide_eq_true (List.getElem_mem _)
    let st : Nat → Gam := fun k => [.fz me, .fz (.str (txt L l)), .no, .ow ((rwS (s0 * s1 ^ k) (rowW b ms (l.take k))).map sh)]
    refine sd_seq (Γ1 := st 0) (sd_setW 3 (ew_is (ew_listL (fB rfl)) (by rw [Int.pow_zero, Int.mul_one]; rfl))) ?_
    refine sd_seq (Γ1 := st l.length) (sd_for (Ei.is (ei_str (ed_fz 1 rfl)) es) (loopF_ix l (fun i => D.str (word [L.getD i 0])) st fun k hk => ?_)) ?_
    · have hi := hl _ (List.getElem_mem hk)
      have hmm : ms[l[k]] ∈ ms := List.getElem_mem hi
      obtain ⟨r1, r2⟩ := wd_row W k (by omega)
      have u := M.sq _ hmm
      refine ⟨[2], _, eg_name 2, Sd.lpLe (Sd.toLp (sd_freeze 3 rfl (sd_setW 3 (ew_is (es := (rwS (s0 * s1 ^ (k + 1)) (rowW b ms (l.take (k + 1)))).map sh) (ew_call (ea_cons (ed_fz 3 rfl) (ea_cons (ed_op (fM rfl) (ed_index (fS rfl) (ed_fz 2 rfl) (asc_index hL (by rw [hm]; exact hi))) (r2_ixL (d := tabL (ms[l[k]].map (rwS s1))) ?_)) ea_nil)) ⟨s0 * s1 ^ k, s1, rowW b ms (l.take k), ms[l[k]], 1400, q, rfl, r1, M.z1, r2, fun r hr => ⟨M.nm _ hmm r hr, ?_⟩, ?_, ?_, by decide, q0, ?_, rfl⟩) ?_)))) ?_⟩
      · rw [List.map_map, atI_map ms (tabL ∘ fun U => U.map (rwS s1)) [] hi, getD_at hi] <;> rfl
      · rw [rowW_len, M.bl, u.2 r hr]; exact Nat.le_refl _
      · rw [u.1]; omega
      · rw [rowW_len, M.bl]; omega
      · show _ ≤ 8000; omega
      · have e : l.take (k + 1) = l.take k ++ [l[k]] := by rw [List.take_add_one, List.getElem?_eq_getElem hk]; rfl
        rw [e, rowW_snoc, Int.mul_assoc, ← Int.pow_succ, getD_at hi]
      · exact .cons (.inr rfl) (.cons (.inr rfl) (.cons (.inl rfl) (.cons (.inr rfl) .nil)))
    · exact sd_is (sd_retO 3 rfl) (by rw [List.take_length])
  · obtain ⟨x, b, m, e, o, rfl, ⟨hk, hb⟩, rfl⟩ := h
    rcases hb with hs | ⟨l, rfl, hl, c, hc, hn⟩
    · exact sd_stop (sd_ifT (et_orT (et_nT (et_B (ed_cb (ea_cons (ed_fz 1 rfl) (ea_cons (ed_ty _) ea_nil)) (isi_str hk hs))))) sd_raise) rfl
    · have fS : ∀ {Γ : Gam}, Γ[0]? = some (.fz (.ins a_Machine (mcF x b m e))) → Ed K (tFld K (tVar 0) "signs") Γ (.str x) := fun {Γ} h => ed_fld (ed_fz 0 h) T.cl_Machine T.na_Machine_signs rfl
      refine sd_stop (sd_ifT (et_orF (et_nF (et_B (ed_cb (ea_cons (ed_fz 1 rfl) (ea_cons (ed_ty _) ea_nil)) (isi_str hk rfl)))) (et_nT (et_B (ed_is (ed_cb (ea_cons (ed_is (ed_map l (fun c => .str (word [c])) (fun c => .bl (decide (c ∈ x.cps.toList))) (Ei.is (ei_str (ed_fz 1 rfl)) (sgn_word l)) (by omega) fun c hc => ⟨[2], _, eg_name 2, by simp, ed_op (ed_fz 2 rfl) (fS rfl) (r2_in (c := c))⟩) (show _ = D.lst ((l.map fun c => decide (c ∈ x.cps.toList)).map D.bl) by rw [List.map_map]; rfl)) ea_nil) rc_all) (congrArg D.bl (all_false _ _ ⟨c, hc, decide_eq_false hn⟩)))))) sd_raise) rfl
theorem ok_weightX (T : Tx K mg a_WeighError a_Nought a_NoText a_NoRow a_NoMachine a_NoWord a_OtherSigns a_TooMany a_Machine a_NONE) (c_row_of : Cl P w K mg base (L2.CX P w) 6 "row_of" (spXW K (Sro a_Machine) (Tro a_Machine a_NoWord))) (c_weighed : Cl P w K mg base CX0 4 "weighed" (spR K Swg)) : Cl P w K mg base (L2.CX P w) 7 "weight" (spX K (Swt a_Machine) (Tro a_Machine a_NoWord)) := by
  refine clX T.d_weight sc_weight (fun ds d h => by obtain ⟨_, _, _, _, _, _, _, _, _, _, h, _⟩ := h; rw [h.ds]; rfl) (fun ds c h => by obtain ⟨_, _, _, _, _, rfl, _⟩ := h; rfl) fun f cdv A outer s H E hr => ?_
  refine ⟨_, (pss_one (ps_ret (pcl c_weighed hr (by decide) rfl (pa_cons (pclR c_row_of hr (by decide) rfl (passes_call (takes_of rfl rfl rfl rfl) fun _ _ _ _ h => h) (pa_cons (pv 0) (pa_cons (pv 1) pa_nil))) (pa_cons (pe_fld (pv 0) rfl) pa_nil))))), fun ds d h => ?_, fun ds c h => ?_⟩
  · obtain ⟨L, b, e, ms, s0, s1, s2, q, n, l, W, rfl⟩ := h
    obtain ⟨r1, r2⟩ := wd_row W l.length W.few
    rw [List.take_length] at r2
    obtain ⟨rfl, hL, hm, M, hl, hf⟩ := id W
    have n12 := M.few
    obtain ⟨q0, q1⟩ := M.hq
    have fE : Ed K (tFld K (tVar 0) "ends") [.fz (.ins a_Machine (mcI (word L) b e ms s0 s1 s2)), .fz (.str (txt L l))] (shL (rwS s2 e)) := ed_fld (ed_fz 0 rfl) T.cl_Machine T.na_Machine_ends rfl
    exact sd_ret (ed_call (ea_cons (ed_ow (ew_callX (ea_cons (ed_fz 0 rfl) (ea_cons (ed_fz 1 rfl) ea_nil)) ⟨L, b, e, ms, s0, s1, s2, q, n, l, W, rfl⟩)) (ea_cons fE ea_nil)) ⟨s0 * s1 ^ l.length, s2, rowW b ms l, e, 1400, q, rfl, r1, M.z2, r2, M.ne, by rw [rowW_len, M.bl]; omega, by decide, q0, by show _ ≤ 8000; omega, rfl⟩)
  · obtain ⟨x, b, m, e, o, rfl, hb, rfl⟩ := h
    exact sd_retX (xd_callA (xa_head (xd_callXW (ea_cons (ed_fz 0 rfl) (ea_cons (ed_fz 1 rfl) ea_nil)) ⟨x, b, m, e, o, rfl, hb, rfl⟩)))
theorem xw_callSW {K : PySem.W.Frag} {W : WX} {Γ : Gam} {ds : List D} {tas : TA} {S : List D → List D → Prop} {T : List D → Addr → Prop} {C : Addr} (h : Ea K tas Γ ds) (hs : T ds C) : XdW K W (tCallS (spXW K S T) (WE W) tas) Γ C := fun F0 H0 F H σ ok fin Q => h F0 H0 F H σ ok _ fun vs F1 H1 g1 r1 =>
  ⟨F1, ds, g1.s, r1, .inr ⟨C, hs, fun F2 H2 g2 => fin F2 H2 ((ok.grow g1).grow g2)⟩⟩
@[reducible] def wrT (K : PySem.W.Frag) (aM aW : Addr) (W : WX) : TS := tIfS (tTest (tOp (rEqD K) (tVar 0) (tC (.int 0)))) (tDrop (tCallS (spX K (Swt aM) (Tro aM aW)) (WE W) (tCons (tVar 1) (tCons (tVar 2) tNil)))) (tDrop (tCallS (spXW K (Sro aM) (Tro aM aW)) (WE W) (tCons (tVar 1) (tCons (tVar 2) tNil))))
def Swf (C : Addr) : List D → D → Prop := fun ds d => ∃ way : Nat, ∃ x b m e o, ds = [.int (way : Nat), .ins C (mcF x b m e), o] ∧ BadW x o ∧ d = refWo
theorem ok_word_refused (T : Tx K mg a_WeighError a_Nought a_NoText a_NoRow a_NoMachine a_NoWord a_OtherSigns a_TooMany a_Machine a_NONE) (c_weight : Cl P w K mg base (L2.CX P w) 7 "weight" (spX K (Swt a_Machine) (Tro a_Machine a_NoWord))) (c_row_of : Cl P w K mg base (L2.CX P w) 6 "row_of" (spXW K (Sro a_Machine) (Tro a_Machine a_NoWord))) (c_word : ClE P w K mg base 1 "_law_word_of" a_NoWord refWo) : Cl P w K mg base CX0 8 "_law_word_refused" (spR K (Swf a_Machine)) := by
  have hW := W1_ok c_word
  have hWm := c_word.mx
  refine clR T.d__law_word_refused sc_law_word_refused (fun ds d h => by obtain ⟨_, _, _, _, _, _, rfl, _⟩ := h; rfl) fun f cdv A outer s H E hr => ?_
  refine ⟨_, (pss_cons (ps_try_as (i := 3) (Wout := fun _ _ _ _ => False) rfl rfl sc_law_word_refused.nd rfl rfl ⟨rfl, by decide, .inl T.m_WeighError⟩ takes0 (fun W pn xe tk _ =>
  (pss_one (ps_if (pt_cmpR (op_eqDK (K := K) rfl hr.units) (pv 0) pe_int (nomark _))
  (pss_one (ps_expr (pclS c_weight hr (by decide) rfl (fun σ => passAt tk σ) (pa_cons (pv 1) (pa_cons (pv 2) pa_nil)))))
  (pss_one (ps_expr (pclS c_row_of hr (by decide) rfl (fun σ => passAt tk σ) (pa_cons (pv 1) (pa_cons (pv 2) pa_nil))))))))
  (fun a oe cls d pn hz hf => (pss_one (ps_ret (pe_callE hW hWm hr (by decide) hz hf rfl (pa_cons (pv 3) pa_nil))))))
  (pss_one (ps_ret pe_non))), fun ds d h => ?_⟩
  obtain ⟨way, x, b, m, e, o, rfl, hb, rfl⟩ := h
  have ar : Ea K (tCons (tVar 1) (tCons (tVar 2) tNil)) [.fz (.int (way : Nat)), .fz (.ins a_Machine (mcF x b m e)), .fz o, .no] [.ins a_Machine (mcF x b m e), o] := ea_cons (ed_fz 1 rfl) (ea_cons (ed_fz 2 rfl) ea_nil)
  exact sd_stop (sd_caught (tb := wrT K a_Machine a_NoWord) (Nat.le_of_ble_eq_true rfl) (fun W => sw_if (et_test (ed_op (ed_fz 0 rfl) (ed_int 0) r2_eqI)) (fun _ => sw_drop (xw_callS ar ⟨x, b, m, e, o, rfl, hb, rfl⟩)) fun _ => sw_drop (xw_callSW ar ⟨x, b, m, e, o, rfl, hb, rfl⟩)) T.em_NoWord W1_self) rfl

/-! ### words of other signs -/
theorem eqD_ref2 (a b : Str) : eqD (.tup [.str a, .str b]) (.tup [.str a, .str b]) = true := by simp [eqD, D.py, D.pyA, PyData.eqv, PyData.eqvAll]
theorem pl_ref2 {a b : Str} (ha : Pl 0 (.str a)) (hb : Pl 0 (.str b)) : Pl 1 (.tup [.str a, .str b]) := .tup fun d hd => by
  rcases List.mem_cons.mp hd with h | h
  · subst h; exact ha
  · rcases List.mem_cons.mp h with h | h
    · subst h; exact hb
    · cases h
theorem pl_refMa : Pl 1 refMa := pl_ref2 (.str (by decide +kernel)) (.str (by decide +kernel))
theorem pl_refTo : Pl 1 refTo := pl_ref2 (.str (by decide +kernel)) (.str (by decide +kernel))
theorem pl_refWo : Pl 1 refWo := pl_ref2 (.str (by decide +kernel)) (.str (by decide +kernel))
theorem wcut_to (l : List Nat) (k : Nat) : cutS (word l) none (some (k : Int)) = word (l.take k) := by
  unfold cutS
  rw [HT.sIx_none, HT.sIx_nat, word_list, word_len, List.drop_zero, Nat.sub_zero]
  unfold word
  congr 2
  rcases Nat.le_total k l.length with h | h
  · rw [Nat.min_eq_left h]
  · rw [Nat.min_eq_right h, List.take_of_length_le (Nat.le_refl _), List.take_of_length_le h]
theorem wcut_from (l : List Nat) (k : Nat) : cutS (word l) (some (k : Int)) none = word (l.drop k) := by
  unfold cutS
  rw [HT.sIx_none, HT.sIx_nat, word_list, word_len]
  unfold word
  congr 2
  rcases Nat.le_total k l.length with h | h
  · rw [Nat.min_eq_left h, List.take_of_length_le (by rw [List.length_drop]; exact Nat.le_refl _)]
  · rw [Nat.min_eq_right h, Nat.sub_self, List.take_zero, List.drop_eq_nil_of_le h]
def osL (L : List Nat) : List Nat := (List.range' 97 26).filter (fun x => !decide (x ∈ L)) ++ [65, 32, 49]
theorem osL_len (L : List Nat) : 3 ≤ (osL L).length ∧ (osL L).length ≤ 29 := by
  unfold osL
  have := List.length_filter_le (fun x => !decide (x ∈ L)) (List.range' 97 26)
  rw [List.length_range'] at this
  rw [List.length_append]
  show 3 ≤ _ + 3 ∧ _ + 3 ≤ 29
  omega
theorem osL_not {L : List Nat} (h : ∀ x ∈ L, 97 ≤ x ∧ x ≤ 122) {x : Nat} (hx : x ∈ osL L) : x ∉ L := by
  unfold osL at hx
  rcases List.mem_append.mp hx with h1 | h1
  · have := (List.mem_filter.mp h1).2
    simpa using this
  · intro z
    have := h x z
    simp at h1
    omega
theorem mul_word (L : List Nat) (n : Nat) (h2 : n ≤ 2) : Txt.mul (word L) (n : Int) = word ((List.replicate n L).flatten) := by
  have : n = 0 ∨ n = 1 ∨ n = 2 := by omega
  rcases this with rfl | rfl | rfl
  · rfl
  · unfold Txt.mul
    rw [if_neg (by decide), if_pos (by rfl)]
    simp
  · unfold Txt.mul
    rw [if_neg (by decide)]
    by_cases hl : L = []
    · subst hl; rfl
    · have : (((2 : Nat) : Int) == 1 || (word L).length == 0) = false := by
        rw [word_len]
        have := List.length_pos_iff.mpr hl
        rw [show (((2 : Nat) : Int) == 1) = false from rfl, Bool.false_or]
        exact beq_eq_false_iff_ne.mpr (by omega)
      rw [if_neg (by rw [this]; decide)]
      show (⟨(#[] ++ (word L).cps) ++ (word L).cps⟩ : Str) = _
      unfold word
      congr 1
      simp
theorem mulOk_word (L : List Nat) (n : Nat) (h2 : n ≤ 2) (hl : L.length ≤ 1000) : MulOk (word L) (n : Int) := by
  refine ⟨?_, fun a b => ?_, fun a b => ?_⟩
  · have : n = 0 ∨ n = 1 ∨ n = 2 := by omega
    rcases this with rfl | rfl | rfl <;> decide
  · have : n = 0 ∨ n = 1 ∨ n = 2 := by omega
    rw [word_len]
    rcases this with rfl | rfl | rfl
    · exact absurd (by decide) a
    · omega
    · omega
  · rw [word_len, Int.toNat_natCast]
    have : L.length * n ≤ 1000 * 2 := Nat.mul_le_mul hl h2
    have sz : 2000 ≤ sizeLine := Nat.le_of_ble_eq_true rfl
    exact decide_eq_false (by omega)
def Swd (C : Addr) : List D → D → Prop := fun ds d => ∃ L b m e, ∃ c : Int, ds = [.ins C (mcF (word L) b m e), .str (word L), .int c] ∧ L.length ≤ 6 ∧ (∀ x ∈ L, 97 ≤ x ∧ x ≤ 122) ∧ d = .bl true
theorem ok_words_refused (T : Tx K mg a_WeighError a_Nought a_NoText a_NoRow a_NoMachine a_NoWord a_OtherSigns a_TooMany a_Machine a_NONE) (c_ref : Cl P w K mg base CX0 8 "_law_word_refused" (spR K (Swf a_Machine))) : Cl P w K mg base CX0 9 "_law_words_refused" (spR K (Swd a_Machine)) := by
  have c__law_word_refused := c_ref
  refine clR T.d__law_words_refused sc_law_words_refused (fun ds d h => by obtain ⟨_, _, _, _, _, rfl, _⟩ := h; rfl) fun f cdv A outer s H E hr => ?_
  refine ⟨_, (pss_cons (ps_set (i := 3) sc_law_words_refused.nd rfl (by first | exact Or.inl rfl | exact Or.inr rfl) (pe_op opAdd (pe_lc rfl sc_law_words_refused.nd (own := [("_law_sign", 9)]) (pi_str pe_str) (blkOk_by (by kernel_rfl)) (fun _ _ _ _ _ => (pg_name (i := 9) sc_law_words_refused.nd rfl (by first | exact Or.inl rfl | exact Or.inr rfl))) (fun _ _ _ _ _ => (pts_one (pt_cmpR op_notIn_sign (pv 9) (pv 1) (by with_unfolding_all rfl)))) (fun _ _ _ _ _ => (pv 9))) (pe_lst (pa_cons pe_str (pa_cons pe_str (pa_cons pe_str pa_nil))))))
  (pss_cons (ps_set (i := 4) sc_law_words_refused.nd rfl (by first | exact Or.inl rfl | exact Or.inr rfl) (pe_op op_mulS (pv 1) (pe_op op_mod (pv 2) pe_int)))
  (pss_cons (ps_set (i := 5) sc_law_words_refused.nd rfl (by first | exact Or.inl rfl | exact Or.inr rfl) (pe_op op_mod (pe_op opFd (pv 2) pe_int) (pe_op opAdd (pe_callB callLen (by rfl) T.n_len bt_len (pa_cons (pv 4) pa_nil)) pe_int)))
  (pss_cons (ps_set (i := 6) sc_law_words_refused.nd rfl (by first | exact Or.inl rfl | exact Or.inr rfl) (pe_op opAdd (pe_op opAdd (pe_slice slA (pv 4) po_none (po_some (pv 5))) (pe_ix ix_seq (pv 3) (pe_op op_mod (pe_op opFd (pv 2) pe_int) (pe_callB callLen (by rfl) T.n_len bt_len (pa_cons (pv 3) pa_nil))) (fun _ _ => rfl))) (pe_slice slA (pv 4) (po_some (pv 5)) po_none)))
  (pss_cons (ps_for PassesOwn.never rfl (pi_list (pe_lst (pa_cons (pv 6) (pa_cons (pe_ix ix_seq (pe_lst (pa_cons pe_non (pa_cons pe_int (pa_cons (pe_lst (pa_cons pe_str pa_nil)) (pa_cons (pe_tup (pa_cons pe_str pa_nil)) (pa_cons pe_bl pa_nil)))))) (pe_op op_mod (pe_op opFd (pv 2) pe_int) pe_int) (fun _ _ => rfl)) pa_nil)))) (pg_name (i := 7) sc_law_words_refused.nd rfl (by first | exact Or.inl rfl | exact Or.inr rfl))
  (pss_one (ps_for PassesOwn.never rfl (pi_range1 rfl T.n_range (pa_cons pe_int pa_nil)) (pg_name (i := 8) sc_law_words_refused.nd rfl (by first | exact Or.inl rfl | exact Or.inr rfl))
  (pss_one (ps_if (pt_cmpR (op_neD hr.units) (pcl c__law_word_refused hr (by decide) rfl (pa_cons (pv 8) (pa_cons (pv 0) (pa_cons (pv 7) pa_nil)))) (pe_tup (pa_cons pe_str (pa_cons pe_str pa_nil))) (nomark _))
  (pss_one (ps_ret pe_bl))
  pss_nil)))))
  (pss_one (ps_ret pe_bl))))))), fun ds d h => ?_⟩
  obtain ⟨L, b, m, e, c, rfl, h6, hL, rfl⟩ := h
  let me : D := .ins a_Machine (mcF (word L) b m e)
  obtain ⟨o3, o29⟩ := osL_len L
  obtain ⟨n, hn, h2⟩ : ∃ n : Nat, c % 3 = n ∧ n ≤ 2 := ⟨(c % 3).toNat, by omega, by omega⟩
  let W : List Nat := (List.replicate n L).flatten
  have lW : W.length ≤ 12 := by
    have : n = 0 ∨ n = 1 ∨ n = 2 := by omega
    show (List.replicate n L).flatten.length ≤ 12
    rcases this with rfl | rfl | rfl
    · simp
    · simpa using (by omega : L.length ≤ 12)
    · have : ((List.replicate 2 L).flatten).length = L.length + L.length := by simp [List.replicate]
      omega
  let oD : D := .lst ((osL L).map fun x => .str (word [x]))
  refine sd_seq (Γ1 := [.fz me, .fz (.str (word L)), .fz (.int c), .fz oD, .no, .no, .no, .no, .no, .no]) (sd_set 3 (ed_is (ed_op (ed_lc (List.range' 97 26) (fun x => .str (word [x])) (fun x => !decide (x ∈ L)) (fun x => .str (word [x])) (Ei.is (ei_str (ed_str alph)) (by unfold sgn; rw [alph_list]; rfl)) (by rw [List.length_range']; decide) fun x hx => ⟨[9], _, eg_name 9, by simp, et_is (et_test (ed_op (ed_fz 9 rfl) (ed_fz 1 rfl) (r2_notIn (c := x)))) (by rw [word_list]), fun _ => ed_fz 9 rfl⟩) (ed_lst (ea_cons (ed_str _) (ea_cons (ed_str _) (ea_cons (ed_str _) ea_nil)))) (r2_addL (by
    rw [List.length_map]
    have := List.length_filter_le (fun x => !decide (x ∈ L)) (List.range' 97 26)
    rw [List.length_range'] at this
    show _ + 3 ≤ _
    omega))) ?_)) ?_
  · show D.lst _ = D.lst ((osL L).map fun x => .str (word [x]))
    unfold osL
    rw [List.map_append]
    rfl
  refine sd_seq (Γ1 := [.fz me, .fz (.str (word L)), .fz (.int c), .fz oD, .fz (.str (word W)), .no, .no, .no, .no, .no]) (sd_set 4 (ed_is (ed_op (ed_fz 1 rfl) (ed_is (ed_op (ed_fz 2 rfl) (ed_int 3) (r2_mod (by decide))) (congrArg D.int hn)) (r2_mulS (mulOk_word L n h2 (by omega)))) (congrArg D.str (mul_word L n h2)))) ?_
  have wl : (word W).length ≤ 100000 := by rw [word_len]; omega
  obtain ⟨k, hk⟩ : ∃ k : Nat, c / 3 % ((W.length : Int) + 1) = k := ⟨(c / 3 % ((W.length : Int) + 1)).toNat, by
    have := Int.emod_nonneg (c / 3) (show (W.length : Int) + 1 ≠ 0 by omega)
    omega⟩
  refine sd_seq (Γ1 := [.fz me, .fz (.str (word L)), .fz (.int c), .fz oD, .fz (.str (word W)), .fz (.int (k : Nat)), .no, .no, .no, .no]) (sd_set 5 (ed_is (ed_op (ed_op (ed_fz 2 rfl) (ed_int 3) (r2_fdP (by decide))) (ed_op (ed_cb (ea_cons (ed_fz 4 rfl) ea_nil) (rc_lenS wl)) (ed_int 1) r2_addI) (r2_mod (by omega))) (congrArg D.int (by rw [word_len]; exact hk)))) ?_
  obtain ⟨j, hj, jl⟩ : ∃ j : Nat, c / 13 % ((osL L).length : Int) = j ∧ j < (osL L).length := by
    have h1 := Int.emod_nonneg (c / 13) (show ((osL L).length : Int) ≠ 0 by omega)
    have h3 := Int.emod_lt_of_pos (c / 13) (show (0 : Int) < (osL L).length by omega)
    exact ⟨(c / 13 % ((osL L).length : Int)).toNat, by omega, by omega⟩
  let z : Nat := (osL L).getD j 0
  have hz : z ∉ L := osL_not hL (by
    show (osL L).getD j 0 ∈ _
    rw [getD_at jl]
    exact List.getElem_mem _)
  let X : List Nat := W.take k ++ [z] ++ W.drop k
  have tk : ∀ {Γ : Gam}, Γ[4]? = some (.fz (.str (word W))) → Γ[5]? = some (.fz (.int (k : Nat))) → Ed K (tSl (rSlA K) (tVar 4) tNoPart (tPart (tVar 5))) Γ (.str (word (W.take k))) := fun h4 h5 => ed_is (ed_sl (ed_fz 4 h4) eo_none (eo_some (ed_fz 5 h5)) (rs_str wl)) (congrArg D.str (wcut_to W k))
  have dk : ∀ {Γ : Gam}, Γ[4]? = some (.fz (.str (word W))) → Γ[5]? = some (.fz (.int (k : Nat))) → Ed K (tSl (rSlA K) (tVar 4) (tPart (tVar 5)) tNoPart) Γ (.str (word (W.drop k))) := fun h4 h5 => ed_is (ed_sl (ed_fz 4 h4) (eo_some (ed_fz 5 h5)) eo_none (rs_str wl)) (congrArg D.str (wcut_from W k))
  have lt : (word (W.take k)).length ≤ 12 := by rw [word_len, List.length_take]; omega
  have ld : (word (W.drop k)).length ≤ 12 := by rw [word_len, List.length_drop]; omega
  refine sd_seq (Γ1 := [.fz me, .fz (.str (word L)), .fz (.int c), .fz oD, .fz (.str (word W)), .fz (.int (k : Nat)), .fz (.str (word X)), .no, .no, .no]) (sd_set 6 (ed_is (ed_op (ed_is (ed_op (tk rfl rfl) (ed_op (ed_fz 3 rfl) (ed_is (ed_op (ed_op (ed_fz 2 rfl) (ed_int 13) (r2_fdP (by decide))) (ed_is (ed_cb (ea_cons (ed_fz 3 rfl) ea_nil) rc_lenL) (congrArg D.int (by rw [List.length_map]))) (r2_mod (by omega))) (congrArg D.int hj)) (r2_ixL (atI_map (osL L) (fun x => D.str (word [x])) 0 jl))) (r2_addS (by
    have : (word [z]).length = 1 := word_len [z]
    show _ + (word [z]).length ≤ _
    omega))) (congrArg D.str (word_add _ _))) (dk rfl rfl) (r2_addS (by
    have : (word (W.take k ++ [z])).length ≤ 13 := by rw [word_len, List.length_append, List.length_take]; show _ + 1 ≤ _; omega
    show (word (W.take k ++ [z])).length + _ ≤ _
    omega))) (congrArg D.str (word_add _ _)))) ?_
  obtain ⟨o, hoI, hok, hos⟩ : ∃ o : D, atI [.non, .int 5, .lst [.str "a"], .tup [.str "a"], .bl true] (c / 3 % 5) = some o ∧ Kd o ∧ isSt o = false := by
    obtain ⟨i, hi⟩ : ∃ i : Nat, c / 3 % 5 = i := ⟨(c / 3 % 5).toNat, by omega⟩
    rw [hi]
    have : i = 0 ∨ i = 1 ∨ i = 2 ∨ i = 3 ∨ i = 4 := by omega
    rcases this with rfl | rfl | rfl | rfl | rfl <;> exact ⟨_, rfl, ⟨_, rfl⟩, rfl⟩
  have bads : ∀ x ∈ [D.str (word X), o], BadW (word L) x := fun x hx => by
    rcases List.mem_cons.mp hx with rfl | hx
    · refine ⟨⟨_, rfl⟩, .inr ⟨X, rfl, ?_, z, by simp [X], by rw [word_list]; exact hz⟩⟩
      show (W.take k ++ [z] ++ W.drop k).length ≤ 1000
      rw [List.length_append, List.length_append, List.length_take, List.length_drop]
      show _ + 1 + _ ≤ _
      omega
    · rw [List.mem_singleton] at hx
      subst hx
      exact ⟨hok, .inl hos⟩
  let G0 : Gam := [.fz me, .fz (.str (word L)), .fz (.int c), .fz oD, .fz (.str (word W)), .fz (.int (k : Nat)), .fz (.str (word X)), .no, .no, .no]
  refine sd_seq (Γ1 := G0) (sd_for (ei_list (ed_lst (ea_cons (ed_fz 6 rfl) (ea_cons (ed_op (ed_lst (ea_cons ed_non (ea_cons (ed_int 5) (ea_cons (ed_lst (ea_cons (ed_str _) ea_nil)) (ea_cons (ed_tup (ea_cons (ed_str _) ea_nil)) (ea_cons (ed_bl true) ea_nil)))))) (ed_op (ed_op (ed_fz 2 rfl) (ed_int 3) (r2_fdP (by decide))) (ed_int 5) (r2_mod (by decide))) (r2_ixL hoI)) ea_nil)))) (loopF_same (Pd := BadW (word L)) (fun x hx => ?_) _ bads)) (sd_ret (ed_bl true))
  refine ⟨[7], _, eg_name 7, Sd.lpLe (Γ1 := [.fz me, .fz (.str (word L)), .fz (.int c), .fz oD, .fz (.str (word W)), .fz (.int (k : Nat)), .fz (.str (word X)), .fz x, .no, .no]) (Sd.toLp (sd_for (Ei.is (ei_rng1 (n := 2) (ea_cons (ed_int 2) ea_nil) (by decide)) (show _ = rg 0 2 from rfl)) (loopF_rg 2 (fun _ => [.fz me, .fz (.str (word L)), .fz (.int c), .fz oD, .fz (.str (word W)), .fz (.int (k : Nat)), .fz (.str (word X)), .fz x, .no, .no]) fun i hi => ?_))) (.cons (.inr rfl) (.cons (.inr rfl) (.cons (.inr rfl) (.cons (.inr rfl) (.cons (.inr rfl) (.cons (.inr rfl) (.cons (.inr rfl) (.cons (.inl rfl) (.cons (.inl rfl) (.cons (.inl rfl) .nil))))))))))⟩
  refine ⟨[8], _, eg_name 8, Sd.lpLe (Sd.toLp (sd_ifF (et_is (et_test (ed_op (ed_call (ea_cons (ed_fz 8 rfl) (ea_cons (ed_fz 0 rfl) (ea_cons (ed_fz 7 rfl) ea_nil))) ⟨i, word L, b, m, e, x, rfl, hx, rfl⟩) (ed_tup (ea_cons (ed_str _) (ea_cons (ed_str _) ea_nil))) (r2_ne pl_refWo pl_refWo))) (by rw [show refWo = .tup [.str "refused", .str "word"] from rfl, eqD_ref2]; rfl)) sd_next)) (.cons (.inr rfl) (.cons (.inr rfl) (.cons (.inr rfl) (.cons (.inr rfl) (.cons (.inr rfl) (.cons (.inr rfl) (.cons (.inr rfl) (.cons (.inr rfl) (.cons (.inl rfl) (.cons (.inl rfl) .nil))))))))))⟩

/-! ### what is no row, what are no signs -/
theorem atI_mod (ds : List D) (x : Int) {k : Int} (h : (ds.length : Int) = k) (h0 : 0 < k) (z : D) : atI ds (x % k) = some (ds.getD (x % k).toNat z) :=
  atI_getD (Int.emod_nonneg _ (by omega)) (by rw [h]; exact Int.emod_lt_of_pos _ h0) z
theorem getD_in {α : Type} {xs : List α} {i : Nat} (h : i < xs.length) (z : α) : xs.getD i z ∈ xs := by
  rw [getD_at h]
  exact List.getElem_mem _
theorem mod_lt' (x : Int) (n : Nat) (h : 0 < n) : (x % (n : Int)).toNat < n := by
  have h1 := Int.emod_nonneg x (show (n : Int) ≠ 0 by omega)
  have h2 := Int.emod_lt_of_pos x (show (0 : Int) < n by omega)
  omega
def badV : List D := [.int 1, .tup [.int 2, .int 4], .tup [.int 1, .int 0], .tup [.int 0, .int 2], .tup [.int 1, .int (-1)], .lst [.int 1, .int 1], .tup [.bl true, .int 1], .str "1", .non, .tup [.int 1, .int 1, .int 1], .tup [.dct, .int 1], .tup [.int 1, .lst [.int 1]]]
theorem badV_ok : ∀ d ∈ badV, Pt d ∧ isSh d = false := by
  have one : ∀ a b : D, Kd a → Kd b → Pt (.tup [a, b]) := fun a b ha hb => ⟨⟨_, rfl⟩, fun x y e => by cases e; exact ⟨ha, hb⟩⟩
  unfold badV
  simp only [List.forall_mem_cons]
  refine ⟨⟨⟨⟨_, rfl⟩, fun x y e => by cases e⟩, rfl⟩, ⟨one _ _ ⟨_, rfl⟩ ⟨_, rfl⟩, by decide +kernel⟩, ⟨one _ _ ⟨_, rfl⟩ ⟨_, rfl⟩, by decide +kernel⟩, ⟨one _ _ ⟨_, rfl⟩ ⟨_, rfl⟩, by decide +kernel⟩, ⟨one _ _ ⟨_, rfl⟩ ⟨_, rfl⟩, by decide +kernel⟩,
    ⟨⟨⟨_, rfl⟩, fun x y e => by cases e⟩, rfl⟩, ⟨one _ _ ⟨_, rfl⟩ ⟨_, rfl⟩, rfl⟩, ⟨⟨⟨_, rfl⟩, fun x y e => by cases e⟩, rfl⟩, ⟨⟨⟨_, rfl⟩, fun x y e => by cases e⟩, rfl⟩, ⟨⟨⟨_, rfl⟩, fun x y e => by cases e⟩, rfl⟩, ⟨one _ _ ⟨_, rfl⟩ ⟨_, rfl⟩, rfl⟩, ⟨one _ _ ⟨_, rfl⟩ ⟨_, rfl⟩, rfl⟩, fun x hx => nomatch hx⟩
def badC (c : Int) : D := badV.getD (c / 5 % 12).toNat .non
theorem badC_ok (c : Int) : Pt (badC c) ∧ isSh (badC c) = false := badV_ok _ (getD_in (mod_lt' _ 12 (by decide)) _)
def atR (c : Int) (n : Nat) : Nat := (c / 60 % ((n : Int) + 1)).toNat
def one1 : D := .tup [.int 1, .int 1]
def noRows (c : Int) (r : List (Int × Int)) : List D :=
  [.lst ((r.map sh).take (atR c r.length) ++ [badC c] ++ (r.map sh).drop (atR c r.length + 1)), .lst (r.map sh ++ [one1]), .non, .tup (r.map sh), .lst ((r.map sh).take (atR c r.length) ++ [badC c] ++ (r.map sh).drop (atR c r.length))]
def noRow (c : Int) (r : List (Int × Int)) : D := (noRows c r).getD (c % 5).toNat .non
theorem noRow_in (c : Int) (r : List (Int × Int)) : noRow c r ∈ noRows c r := getD_in (mod_lt' _ 5 (by decide)) _
theorem pt_mem {r : List (Int × Int)} : ∀ d ∈ r.map sh, Pt d := fun d hd => by
  obtain ⟨p, _, rfl⟩ := List.mem_map.mp hd
  exact pt_sh p
theorem pt_one : Pt one1 := pt_sh (1, 1)
theorem rowK_lst {es : List D} (h : es.length ≤ 1000) (hp : ∀ e ∈ es, Pt e) : RowK (.lst es) := ⟨⟨_, rfl⟩, fun xs e => by cases e; exact ⟨h, hp⟩⟩
theorem tabK_lst {es : List D} (h : es.length ≤ 1000) (hp : ∀ e ∈ es, RowK e) : TabK (.lst es) := ⟨⟨_, rfl⟩, fun xs e => by cases e; exact ⟨h, hp⟩⟩
theorem movK_lst {es : List D} (h : es.length ≤ 1000) (hp : ∀ e ∈ es, TabK e) : MovK (.lst es) := ⟨⟨_, rfl⟩, fun xs e => by cases e; exact ⟨h, hp⟩⟩
theorem rowK_no {d : D} (h : Kd d) (hn : isLs d = false) : RowK d := ⟨h, fun es e => by subst e; cases hn⟩
theorem tabK_no {d : D} (h : Kd d) (hn : isLs d = false) : TabK d := ⟨h, fun es e => by subst e; cases hn⟩
theorem movK_no {d : D} (h : Kd d) (hn : isLs d = false) : MovK d := ⟨h, fun es e => by subst e; cases hn⟩
theorem cut_pt {r : List (Int × Int)} {x : D} {i j : Nat} (hx : Pt x) : ∀ d ∈ (r.map sh).take i ++ [x] ++ (r.map sh).drop j, Pt d := fun d hd => by
  rcases List.mem_append.mp hd with h | h
  · rcases List.mem_append.mp h with h | h
    · exact pt_mem d (List.mem_of_mem_take h)
    · rw [List.mem_singleton] at h
      subst h
      exact hx
  · exact pt_mem d (List.mem_of_mem_drop h)
theorem noRow_k {r : List (Int × Int)} (c : Int) (h : r.length ≤ 100) : RowK (noRow c r) := by
  have b := (badC_ok c).1
  have all : ∀ d ∈ noRows c r, RowK d := by
    unfold noRows
    simp only [List.forall_mem_cons]
    refine ⟨rowK_lst ?_ (cut_pt b), rowK_lst ?_ ?_, rowK_no ⟨_, rfl⟩ rfl, rowK_no ⟨_, rfl⟩ rfl, rowK_lst ?_ (cut_pt b), fun x hx => nomatch hx⟩
    · simp only [List.length_append, List.length_take, List.length_drop, List.length_map, List.length_cons, List.length_nil]; omega
    · simp only [List.length_append, List.length_map, List.length_cons, List.length_nil]; omega
    · intro d hd
      rcases List.mem_append.mp hd with h | h
      · exact pt_mem d h
      · rw [List.mem_singleton] at h
        subst h
        exact pt_one
    · simp only [List.length_append, List.length_take, List.length_drop, List.length_map, List.length_cons, List.length_nil]; omega
  exact all _ (noRow_in c r)
theorem isRow_bad {n : Nat} {es : List D} {x : D} (hx : x ∈ es) (hs : isSh x = false) : isRow n (.lst es) = false := by
  show (decide (es.length = n) && es.all isSh) = false
  rw [Bool.and_eq_false_iff]
  refine .inr ?_
  rw [List.all_eq_false]
  exact ⟨x, hx, by rw [hs]; decide⟩
theorem isRow_len {n : Nat} {es : List D} (h : es.length ≠ n) : isRow n (.lst es) = false := by
  show (decide (es.length = n) && es.all isSh) = false
  rw [decide_eq_false h, Bool.false_and]
theorem noRow_or (c : Int) (r : List (Int × Int)) : (∀ n, isRow n (noRow c r) = false) ∨ noRow c r = .lst (r.map sh ++ [one1]) := by
  have b := (badC_ok c).2
  have all : ∀ d ∈ noRows c r, (∀ n, isRow n d = false) ∨ d = .lst (r.map sh ++ [one1]) := by
    unfold noRows
    simp only [List.forall_mem_cons]
    exact ⟨.inl fun n => isRow_bad (by simp) b, .inr trivial, .inl fun n => rfl, .inl fun n => rfl, .inl fun n => isRow_bad (by simp) b, fun x hx => nomatch hx⟩
  exact all _ (noRow_in c r)
theorem noRow_bad (c : Int) (r : List (Int × Int)) : isRow r.length (noRow c r) = false := by
  rcases noRow_or c r with h | h
  · exact h _
  · rw [h]
    exact isRow_len (by rw [List.length_append, List.length_map]; show _ + 1 ≠ _; omega)
def Snr : List D → D → Prop := fun ds d => ∃ (c : Int) (r : List (Int × Int)), ds = [.int c, shL r] ∧ r.length ≤ 100 ∧ d = noRow c r
theorem ok_no_row (T : Tx K mg a_WeighError a_Nought a_NoText a_NoRow a_NoMachine a_NoWord a_OtherSigns a_TooMany a_Machine a_NONE) : Cl P w K mg base CX0 1 "_law_no_row" (spR K Snr) := by
  refine clR T.d__law_no_row sc_law_no_row (fun ds d h => by obtain ⟨_, _, rfl, _⟩ := h; rfl) fun f cdv A outer s H E hr => ?_
  refine ⟨_, (pss_cons (ps_set (i := 2) sc_law_no_row.nd rfl (by first | exact Or.inl rfl | exact Or.inr rfl) (pe_lst (pa_cons pe_int (pa_cons (pe_tup (pa_cons pe_int (pa_cons pe_int pa_nil))) (pa_cons (pe_tup (pa_cons pe_int (pa_cons pe_int pa_nil))) (pa_cons (pe_tup (pa_cons pe_int (pa_cons pe_int pa_nil))) (pa_cons (pe_tup (pa_cons pe_int (pa_cons (pe_un un_neg pe_int) pa_nil))) (pa_cons (pe_lst (pa_cons pe_int (pa_cons pe_int pa_nil))) (pa_cons (pe_tup (pa_cons pe_bl (pa_cons pe_int pa_nil))) (pa_cons pe_str (pa_cons pe_non (pa_cons (pe_tup (pa_cons pe_int (pa_cons pe_int (pa_cons pe_int pa_nil)))) (pa_cons (pe_tup (pa_cons pe_dnewK (pa_cons pe_int pa_nil))) (pa_cons (pe_tup (pa_cons pe_int (pa_cons (pe_lst (pa_cons pe_int pa_nil)) pa_nil))) pa_nil))))))))))))))
  (pss_cons (ps_set (i := 2) sc_law_no_row.nd rfl (by first | exact Or.inl rfl | exact Or.inr rfl) (pe_ix ix_seq (pv 2) (pe_op op_mod (pe_op opFd (pv 0) pe_int) pe_int) (fun _ _ => rfl)))
  (pss_cons (ps_set (i := 3) sc_law_no_row.nd rfl (by first | exact Or.inl rfl | exact Or.inr rfl) (pe_op op_mod (pe_op opFd (pv 0) pe_int) (pe_op opAdd (pe_callB callLen (by rfl) T.n_len bt_len (pa_cons (pv 1) pa_nil)) pe_int)))
  (pss_cons (ps_set (i := 4) sc_law_no_row.nd rfl (by first | exact Or.inl rfl | exact Or.inr rfl) (pe_lst (pa_cons (pe_op opAdd (pe_op opAdd (pe_slice slA (pv 1) po_none (po_some (pv 3))) (pe_lst (pa_cons (pv 2) pa_nil))) (pe_slice slA (pv 1) (po_some (pe_op opAdd (pv 3) pe_int)) po_none)) (pa_cons (pe_op opAdd (pv 1) (pe_lst (pa_cons (pe_tup (pa_cons pe_int (pa_cons pe_int pa_nil))) pa_nil))) (pa_cons pe_non (pa_cons (pe_callTy call_tuple_of (by rfl) T.n_tuple bt_tuple (pa_cons (pv 1) pa_nil)) (pa_cons (pe_op opAdd (pe_op opAdd (pe_slice slA (pv 1) po_none (po_some (pv 3))) (pe_lst (pa_cons (pv 2) pa_nil))) (pe_slice slA (pv 1) (po_some (pv 3)) po_none)) pa_nil)))))))
  (pss_one (ps_ret (pe_ix ix_seq (pv 4) (pe_op op_mod (pv 0) pe_int) (fun _ _ => rfl)))))))), fun ds d h => ?_⟩
  obtain ⟨c, r, rfl, hl, rfl⟩ := h
  have i1 : ∀ {Γ : Gam}, Ed K (tC (.int 1)) Γ (.int 1) := ed_int 1
  refine sd_seq (Γ1 := [.fz (.int c), .fz (shL r), .fz (.lst badV), .no, .no]) (sd_set 2 (ed_lst (ea_cons (ed_int 1) (ea_cons (ed_tup (ea_cons (ed_int 2) (ea_cons (ed_int 4) ea_nil))) (ea_cons (ed_tup (ea_cons (ed_int 1) (ea_cons (ed_int 0) ea_nil))) (ea_cons (ed_tup (ea_cons (ed_int 0) (ea_cons (ed_int 2) ea_nil))) (ea_cons (ed_tup (ea_cons (ed_int 1) (ea_cons (ed_un (ed_int 1) r1_neg) ea_nil))) (ea_cons (ed_lst (ea_cons (ed_int 1) (ea_cons (ed_int 1) ea_nil))) (ea_cons (ed_tup (ea_cons (ed_bl true) (ea_cons (ed_int 1) ea_nil))) (ea_cons (ed_str _) (ea_cons ed_non (ea_cons (ed_tup (ea_cons (ed_int 1) (ea_cons (ed_int 1) (ea_cons (ed_int 1) ea_nil)))) (ea_cons (ed_tup (ea_cons ed_dct (ea_cons (ed_int 1) ea_nil))) (ea_cons (ed_tup (ea_cons (ed_int 1) (ea_cons (ed_lst (ea_cons (ed_int 1) ea_nil)) ea_nil))) ea_nil)))))))))))))) ?_
  refine sd_seq (Γ1 := [.fz (.int c), .fz (shL r), .fz (badC c), .no, .no]) (sd_set 2 (ed_op (ed_fz 2 rfl) (ed_op (ed_op (ed_fz 0 rfl) (ed_int 5) (r2_fdP (by decide))) (ed_int 12) (r2_mod (by decide))) (r2_ixL (atI_mod badV _ rfl (by decide) _)))) ?_
  refine sd_seq (Γ1 := [.fz (.int c), .fz (shL r), .fz (badC c), .fz (.int (atR c r.length : Nat)), .no]) (sd_set 3 (ed_is (ed_op (ed_op (ed_fz 0 rfl) (ed_int 60) (r2_fdP (by decide))) (ed_op (ed_is (ed_cb (ea_cons (ed_fz 1 rfl) ea_nil) rc_lenL) (congrArg D.int (by rw [List.length_map]))) (ed_int 1) r2_addI) (r2_mod (by omega))) (congrArg D.int (by
    unfold atR
    have := Int.emod_nonneg (c / 60) (show (r.length : Int) + 1 ≠ 0 by omega)
    omega)))) ?_
  have tk : ∀ {Γ : Gam}, Γ[1]? = some (.fz (shL r)) → Γ[3]? = some (.fz (.int (atR c r.length : Nat))) → Ed K (tSl (rSlA K) (tVar 1) tNoPart (tPart (tVar 3))) Γ (.lst ((r.map sh).take (atR c r.length))) := fun h1 h3 => ed_is (ed_sl (ed_fz 1 h1) eo_none (eo_some (ed_fz 3 h3)) rs_lst) (congrArg D.lst (cutD_to _ _))
  have dk : ∀ {Γ : Gam}, Γ[1]? = some (.fz (shL r)) → Γ[3]? = some (.fz (.int (atR c r.length : Nat))) → Ed K (tSl (rSlA K) (tVar 1) (tPart (tVar 3)) tNoPart) Γ (.lst ((r.map sh).drop (atR c r.length))) := fun h1 h3 => ed_is (ed_sl (ed_fz 1 h1) (eo_some (ed_fz 3 h3)) eo_none rs_lst) (congrArg D.lst (cutD_from _ _))
  have d1 : ∀ {Γ : Gam}, Γ[1]? = some (.fz (shL r)) → Γ[3]? = some (.fz (.int (atR c r.length : Nat))) → Ed K (tSl (rSlA K) (tVar 1) (tPart (tOp rAddA (tVar 3) (tC (.int 1)))) tNoPart) Γ (.lst ((r.map sh).drop (atR c r.length + 1))) := fun h1 h3 => ed_is (ed_sl (ed_fz 1 h1) (eo_some (ed_is (ed_op (ed_fz 3 h3) (ed_int 1) r2_addI) (show _ = D.int ((atR c r.length + 1 : Nat) : Int) from congrArg D.int (by push_cast; rfl)))) eo_none rs_lst) (congrArg D.lst (cutD_from _ _))
  have b1 : ((r.map sh).take (atR c r.length)).length ≤ 100 := by rw [List.length_take, List.length_map]; omega
  have b2 : ∀ k, ((r.map sh).drop k).length ≤ 100 := fun k => by rw [List.length_drop, List.length_map]; omega
  have b3 : ∀ z : D, ((r.map sh).take (atR c r.length) ++ [z]).length ≤ 101 := fun z => by rw [List.length_append]; show _ + 1 ≤ _; omega
  refine sd_seq (Γ1 := [.fz (.int c), .fz (shL r), .fz (badC c), .fz (.int (atR c r.length : Nat)), .fz (.lst (noRows c r))]) (sd_set 4 (ed_lst
    (ea_cons (ed_op (ed_op (tk rfl rfl) (ed_lst (ea_cons (ed_fz 2 rfl) ea_nil)) (r2_addL (by show _ + 1 ≤ _; omega))) (d1 rfl rfl) (r2_addL (by have := b3 (badC c); have := b2 (atR c r.length + 1); omega)))
    (ea_cons (ed_op (ed_fz 1 rfl) (ed_lst (ea_cons (ed_tup (ea_cons (ed_int 1) (ea_cons (ed_int 1) ea_nil))) ea_nil)) (r2_addL (by rw [List.length_map]; show _ + 1 ≤ _; omega)))
    (ea_cons ed_non
    (ea_cons (ed_cb (ea_cons (ed_fz 1 rfl) ea_nil) rc_tupL)
    (ea_cons (ed_op (ed_op (tk rfl rfl) (ed_lst (ea_cons (ed_fz 2 rfl) ea_nil)) (r2_addL (by show _ + 1 ≤ _; omega))) (dk rfl rfl) (r2_addL (by have := b3 (badC c); have := b2 (atR c r.length); omega)))
    ea_nil))))))) ?_
  exact sd_ret (ed_op (ed_fz 4 rfl) (ed_op (ed_fz 0 rfl) (ed_int 5) (r2_mod (by decide))) (r2_ixL (atI_mod (k := 5) (noRows c r) _ rfl (by decide) _)))
/-- no signs -/
def someV : List D := [.str "ba", .str "aa", .str "A", .str "a1", .str "abcdefg", .non, .lst [.str "a"], .int 5, .str "a b", .tup [.str "a", .str "b"], .str "\n", .str "ab~"]
theorem someV_ok : ∀ d ∈ someV, SgK d ∧ isSg d = false := by
  have sk : ∀ x : Str, x.length ≤ 1000 → SgK (.str x) := fun x h => ⟨⟨_, rfl⟩, fun y e => by cases e; exact h⟩
  have sn : ∀ d : D, Kd d → isSt d = false → SgK d := fun d h e => ⟨h, fun y z => by subst z; cases e⟩
  unfold someV
  simp only [List.forall_mem_cons]
  refine ⟨⟨sk _ (by decide +kernel), by decide +kernel⟩, ⟨sk _ (by decide +kernel), by decide +kernel⟩, ⟨sk _ (by decide +kernel), by decide +kernel⟩, ⟨sk _ (by decide +kernel), by decide +kernel⟩, ⟨sk _ (by decide +kernel), by decide +kernel⟩, ⟨sn _ ⟨_, rfl⟩ rfl, rfl⟩, ⟨sn _ ⟨_, rfl⟩ rfl, rfl⟩, ⟨sn _ ⟨_, rfl⟩ rfl, rfl⟩, ⟨sk _ (by decide +kernel), by decide +kernel⟩, ⟨sn _ ⟨_, rfl⟩ rfl, rfl⟩, ⟨sk _ (by decide +kernel), by decide +kernel⟩, ⟨sk _ (by decide +kernel), by decide +kernel⟩, fun x hx => nomatch hx⟩
def othS : Str := " !\"#$&'()*+,-./0123456789:;<=>?@ABCDEFGHIJKLMNOPQRSTUVWXYZ[\\]^_`{|}~"
def othB : List Nat := othS.cps.toList
theorem othB_not : ∀ x ∈ othB, ¬ (97 ≤ x ∧ x ≤ 122) := by decide +kernel
theorem othB_len : othB.length = othS.length := by simp [othB, Str.length]
def atS (c : Int) (n : Nat) : Nat := (c / 3 % ((n : Int) + 1)).toNat
def othC (c : Int) : Nat := othB.getD (c / 12 % (othS.length : Int)).toNat 0
def twos (L : List Nat) (k : Nat) : List D := [.str (word (L.take (k + 1) ++ L.drop k)), .str (word (L.drop k ++ L.take (k + 1)))]
def noSg (c : Int) (L : List Nat) : D :=
  if c % 3 = 1 then .str (word (L.take (atS c L.length) ++ [othC c] ++ L.drop (atS c L.length)))
  else if c % 3 = 2 ∧ atS c L.length < L.length then (twos L (atS c L.length)).getD (c / 12 % 2).toNat .non
  else someV.getD (c / 3 % 12).toNat .non
theorem isSg_word (l : List Nat) (h : ¬ (l.Pairwise (· < ·) ∧ ∀ c ∈ l, 97 ≤ c ∧ c ≤ 122)) : isSg (.str (word l)) = false := decide_eq_false fun q => h (by
  obtain ⟨_, a, b⟩ := q
  rw [word_list] at a b
  exact ⟨a, b⟩)
theorem twice_not {l m : List Nat} {x : Nat} (h1 : x ∈ l) (h2 : x ∈ m) : ¬ (l ++ m).Pairwise (· < ·) := fun h => by
  have := (List.pairwise_append.mp h).2.2 x h1 x h2
  omega
theorem noSg_ok (c : Int) {L : List Nat} (h6 : L.length ≤ 6) : SgK (noSg c L) ∧ isSg (noSg c L) = false := by
  have sk : ∀ l : List Nat, l.length ≤ 1000 → SgK (.str (word l)) := fun x h => ⟨⟨_, rfl⟩, fun y e => by cases e; rw [word_len]; exact h⟩
  unfold noSg
  split
  · refine ⟨sk _ (by simp only [List.length_append, List.length_take, List.length_drop, List.length_cons, List.length_nil]; omega), isSg_word _ fun q => ?_⟩
    refine othB_not (othC c) (getD_in (by rw [othB_len]; exact mod_lt' _ _ (by decide +kernel)) _) (q.2 _ (by simp))
  · split
    · rename_i h
      obtain ⟨_, hk⟩ := h
      have m1 : L[atS c L.length] ∈ L.take (atS c L.length + 1) := by
        have e : L.take (atS c L.length + 1) = L.take (atS c L.length) ++ [L[atS c L.length]] := by rw [List.take_add_one, List.getElem?_eq_getElem hk]; rfl
        rw [e]
        exact List.mem_append_right _ (List.mem_singleton.mpr rfl)
      have m2 : L[atS c L.length] ∈ L.drop (atS c L.length) := by
        rw [List.drop_eq_getElem_cons hk]
        exact List.mem_cons_self
      have all : ∀ d ∈ twos L (atS c L.length), SgK d ∧ isSg d = false := by
        unfold twos
        simp only [List.forall_mem_cons]
        exact ⟨⟨sk _ (by simp only [List.length_append, List.length_take, List.length_drop]; omega), isSg_word _ fun q => twice_not m1 m2 q.1⟩, ⟨sk _ (by simp only [List.length_append, List.length_take, List.length_drop]; omega), isSg_word _ fun q => twice_not m2 m1 q.1⟩, fun x hx => nomatch hx⟩
      exact all _ (getD_in (mod_lt' _ 2 (by decide)) _)
    · exact someV_ok _ (getD_in (mod_lt' _ 12 (by decide)) _)
def Sns : List D → D → Prop := fun ds d => ∃ (c : Int) (L : List Nat), ds = [.int c, .str (word L)] ∧ L.length ≤ 6 ∧ d = noSg c L
theorem ok_no_signs (T : Tx K mg a_WeighError a_Nought a_NoText a_NoRow a_NoMachine a_NoWord a_OtherSigns a_TooMany a_Machine a_NONE) : Cl P w K mg base CX0 1 "_law_no_signs" (spR K Sns) := by
  refine clR T.d__law_no_signs sc_law_no_signs (fun ds d h => by obtain ⟨_, _, rfl, _⟩ := h; rfl) fun f cdv A outer s H E hr => ?_
  refine ⟨_, (pss_cons (ps_set (i := 2) sc_law_no_signs.nd rfl (by first | exact Or.inl rfl | exact Or.inr rfl) (pe_lst (pa_cons pe_str (pa_cons pe_str (pa_cons pe_str (pa_cons pe_str (pa_cons pe_str (pa_cons pe_non (pa_cons (pe_lst (pa_cons pe_str pa_nil)) (pa_cons pe_int (pa_cons pe_str (pa_cons (pe_tup (pa_cons pe_str (pa_cons pe_str pa_nil))) (pa_cons pe_str (pa_cons pe_str pa_nil))))))))))))))
  (pss_cons (ps_set (i := 3) sc_law_no_signs.nd rfl (by first | exact Or.inl rfl | exact Or.inr rfl) pe_str)
  (pss_cons (ps_set (i := 4) sc_law_no_signs.nd rfl (by first | exact Or.inl rfl | exact Or.inr rfl) (pe_op op_mod (pe_op opFd (pv 0) pe_int) (pe_op opAdd (pe_callB callLen (by rfl) T.n_len bt_len (pa_cons (pv 1) pa_nil)) pe_int)))
  (pss_cons (ps_if (pt_cmpR (op_eqD hr.units) (pe_op op_mod (pv 0) pe_int) pe_int (nomark _))
  (pss_one (ps_ret (pe_op opAdd (pe_op opAdd (pe_slice slA (pv 1) po_none (po_some (pv 4))) (pe_ix ix_seq (pv 3) (pe_op op_mod (pe_op opFd (pv 0) pe_int) (pe_callB callLen (by rfl) T.n_len bt_len (pa_cons (pv 3) pa_nil))) (fun _ _ => rfl))) (pe_slice slA (pv 1) (po_some (pv 4)) po_none))))
  pss_nil)
  (pss_cons (ps_if (PW.pt (pw_and (pt_cmpR (op_eqD hr.units) (pe_op op_mod (pv 0) pe_int) pe_int (nomark _)) (pw_and1 (pt_cmpR opLt (pv 4) (pe_callB callLen (by rfl) T.n_len bt_len (pa_cons (pv 1) pa_nil)) (nomark _)))))
  (pss_one (ps_ret (pe_ix ix_seq (pe_lst (pa_cons (pe_op opAdd (pe_slice slA (pv 1) po_none (po_some (pe_op opAdd (pv 4) pe_int))) (pe_slice slA (pv 1) (po_some (pv 4)) po_none)) (pa_cons (pe_op opAdd (pe_slice slA (pv 1) (po_some (pv 4)) po_none) (pe_slice slA (pv 1) po_none (po_some (pe_op opAdd (pv 4) pe_int)))) pa_nil))) (pe_op op_mod (pe_op opFd (pv 0) pe_int) pe_int) (fun _ _ => rfl))))
  pss_nil)
  (pss_one (ps_ret (pe_ix ix_seq (pv 2) (pe_op op_mod (pe_op opFd (pv 0) pe_int) pe_int) (fun _ _ => rfl))))))))), fun ds d h => ?_⟩
  obtain ⟨c, L, rfl, h6, rfl⟩ := h
  have wl : (word L).length ≤ 100000 := by rw [word_len]; omega
  have wl6 : (word L).length = L.length := word_len L
  let k : Nat := atS c L.length
  refine sd_seq (Γ1 := [.fz (.int c), .fz (.str (word L)), .fz (.lst someV), .no, .no]) (sd_set 2 (ed_lst (ea_cons (ed_str _) (ea_cons (ed_str _) (ea_cons (ed_str _) (ea_cons (ed_str _) (ea_cons (ed_str _) (ea_cons ed_non (ea_cons (ed_lst (ea_cons (ed_str _) ea_nil)) (ea_cons (ed_int 5) (ea_cons (ed_str _) (ea_cons (ed_tup (ea_cons (ed_str _) (ea_cons (ed_str _) ea_nil))) (ea_cons (ed_str _) (ea_cons (ed_str _) ea_nil)))))))))))))) ?_
  refine sd_seq (Γ1 := [.fz (.int c), .fz (.str (word L)), .fz (.lst someV), .fz (.str othS), .no]) (sd_set 3 (ed_str othS)) ?_
  refine sd_seq (Γ1 := [.fz (.int c), .fz (.str (word L)), .fz (.lst someV), .fz (.str othS), .fz (.int (k : Nat))]) (sd_set 4 (ed_is (ed_op (ed_op (ed_fz 0 rfl) (ed_int 3) (r2_fdP (by decide))) (ed_op (ed_is (ed_cb (ea_cons (ed_fz 1 rfl) ea_nil) (rc_lenS wl)) (congrArg D.int (by rw [wl6]))) (ed_int 1) r2_addI) (r2_mod (by omega))) (congrArg D.int (show _ = ((atS c L.length : Nat) : Int) by
    unfold atS
    have := Int.emod_nonneg (c / 3) (show (L.length : Int) + 1 ≠ 0 by omega)
    omega)))) ?_
  let G : Gam := [.fz (.int c), .fz (.str (word L)), .fz (.lst someV), .fz (.str othS), .fz (.int (k : Nat))]
  have tk : Ed K (tSl (rSlA K) (tVar 1) tNoPart (tPart (tVar 4))) G (.str (word (L.take k))) := ed_is (ed_sl (ed_fz 1 rfl) eo_none (eo_some (ed_fz 4 rfl)) (rs_str wl)) (congrArg D.str (wcut_to L k))
  have t1 : Ed K (tSl (rSlA K) (tVar 1) tNoPart (tPart (tOp rAddA (tVar 4) (tC (.int 1))))) G (.str (word (L.take (k + 1)))) := ed_is (ed_sl (ed_fz 1 rfl) eo_none (eo_some (ed_is (ed_op (ed_fz 4 rfl) (ed_int 1) r2_addI) (show _ = D.int ((k + 1 : Nat) : Int) from congrArg D.int (by push_cast; rfl)))) (rs_str wl)) (congrArg D.str (wcut_to L (k + 1)))
  have dk : Ed K (tSl (rSlA K) (tVar 1) (tPart (tVar 4)) tNoPart) G (.str (word (L.drop k))) := ed_is (ed_sl (ed_fz 1 rfl) (eo_some (ed_fz 4 rfl)) eo_none (rs_str wl)) (congrArg D.str (wcut_from L k))
  have l1 : (word (L.take k)).length ≤ 6 := by rw [word_len, List.length_take]; omega
  have l2 : (word (L.drop k)).length ≤ 6 := by rw [word_len, List.length_drop]; omega
  have l3 : (word (L.take (k + 1))).length ≤ 6 := by rw [word_len, List.length_take]; omega
  have m3 : ∀ j : Int, Et K (tTest (tOp (rEqD K) (tOp (rI (fun _ j => 0 < j) fun i j => .int (i % j)) (tVar 0) (tC (.int 3))) (tC (.int j)))) G (decide (c % 3 = j)) := fun j => et_test (ed_op (ed_op (ed_fz 0 rfl) (ed_int 3) (r2_mod (by decide))) (ed_int j) r2_eqI)
  unfold noSg
  by_cases h1 : c % 3 = 1
  · rw [if_pos h1]
    have oc : atI othS.cps.toList (c / 12 % (othS.length : Int)) = some (othC c) := atI_getD (xs := othB) (Int.emod_nonneg _ (by decide +kernel)) (by rw [othB_len]; exact Int.emod_lt_of_pos _ (by decide +kernel)) 0
    refine sd_stop (sd_ifT (et_is (m3 1) (decide_eq_true h1)) (sd_ret (ed_is (ed_op (ed_is (ed_op tk (ed_op (ed_fz 3 rfl) (ed_op (ed_op (ed_fz 0 rfl) (ed_int 12) (r2_fdP (by decide))) (ed_cb (ea_cons (ed_fz 3 rfl) ea_nil) (rc_lenS (by decide +kernel))) (r2_mod (by decide +kernel))) (r2_ixS (by decide +kernel) oc)) (r2_addS (by show _ + 1 ≤ _; omega))) (congrArg D.str (word_add (L.take k) [othC c]))) dk (r2_addS ?_)) (congrArg D.str (word_add _ _))))) rfl
    have : (word (L.take k ++ [othC c])).length ≤ 7 := by rw [word_len, List.length_append, List.length_take]; show _ + 1 ≤ _; omega
    omega
  · rw [if_neg h1]
    refine sd_seq (Γ1 := G) (sd_ifF (et_is (m3 1) (decide_eq_false h1)) sd_next) ?_
    have lt : Et K (tTest (tOp rLtA (tVar 4) (tCB (rLenA K) (tCons (tVar 1) tNil)))) G (decide (k < L.length)) := et_is (et_test (ed_op (ed_fz 4 rfl) (ed_is (ed_cb (ea_cons (ed_fz 1 rfl) ea_nil) (rc_lenS wl)) (congrArg D.int (by rw [wl6]))) r2_ltI)) (decide_eq_decide.mpr (by omega))
    have tst := et_and (m3 2) fun _ => lt
    by_cases h2 : c % 3 = 2 ∧ k < L.length
    · rw [if_pos h2]
      refine sd_stop (sd_ifT (et_is tst (by rw [decide_eq_true h2.1, decide_eq_true h2.2]; rfl)) (sd_ret (ed_op (ed_is (ed_lst (ea_cons (ed_op t1 dk (r2_addS (by omega))) (ea_cons (ed_op dk t1 (r2_addS (by omega))) ea_nil))) (show _ = D.lst (twos L k) by rw [word_add, word_add]; rfl)) (ed_op (ed_op (ed_fz 0 rfl) (ed_int 12) (r2_fdP (by decide))) (ed_int 2) (r2_mod (by decide))) (r2_ixL (atI_mod (k := 2) (twos L k) _ rfl (by decide) _))))) rfl
    · rw [if_neg h2]
      refine sd_seq (Γ1 := G) (sd_ifF (et_is tst ?_) sd_next) ?_
      · rw [Bool.and_eq_false_iff]
        by_cases h3 : c % 3 = 2
        · exact .inr (decide_eq_false fun h4 => h2 ⟨h3, h4⟩)
        · exact .inl (decide_eq_false h3)
      · exact sd_ret (ed_op (ed_fz 2 rfl) (ed_op (ed_op (ed_fz 0 rfl) (ed_int 3) (r2_fdP (by decide))) (ed_int 12) (r2_mod (by decide))) (r2_ixL (atI_mod someV _ rfl (by decide) _)))

/-! ### spoilt in one place -/
def movD (m : List (List (List (Int × Int)))) : List D := m.map tabL
def blank (b : List (Int × Int)) : D := .lst (b.map fun _ => .lst (List.replicate b.length [D.tup [.int 0, .int 1]]).flatten)
def mvW (w : D) (b : List (Int × Int)) (m : List (List (List (Int × Int)))) : List D :=
  match w with
  | .str x => (movD m ++ (List.replicate 7 [blank b]).flatten).take x.length
  | _ => movD m
def mvS (m : List (List (List (Int × Int)))) : List D := [.lst (movD m ++ [.lst []]), .non, .tup (movD m), .lst (movD m ++ [.non]), .lst [.lst (movD m)]]
def spA (c : Int) (m : List (List (List (Int × Int)))) : Nat := (c / 5 % (m.length : Int)).toNat
def spL (c : Int) (b : List (Int × Int)) : Nat := (c / 5 / 7 % (b.length : Int)).toNat
def spU (c : Int) (m : List (List (List (Int × Int)))) : List (List (Int × Int)) := m.getD (spA c m) []
def spR1 (c : Int) (b : List (Int × Int)) (m : List (List (List (Int × Int)))) : List (Int × Int) := (spU c m).getD (spL c b) []
def spT (c : Int) (b : List (Int × Int)) (m : List (List (List (Int × Int)))) : List D := ((spU c m).map shL).set (spL c b) (noRow (c / 5 / 21) (spR1 c b m))
def tabS (c : Int) (b : List (Int × Int)) (m : List (List (List (Int × Int)))) : List D := [.lst ((spT c b m).take (spL c b)), .lst ((spU c m).map shL ++ [shL (spR1 c b m)]), .non, .tup ((spU c m).map shL)]
def tabW (c : Int) (b : List (Int × Int)) (m : List (List (List (Int × Int)))) : D :=
  if c / 5 / 3 % 4 = 1 then (tabS c b m).getD (c / 5 / 12 % 4).toNat .non else .lst (spT c b m)
def spo (c : Int) (L : List Nat) (b : List (Int × Int)) (m : List (List (List (Int × Int)))) (e : List (Int × Int)) : List D :=
  if c % 5 = 0 then [noSg (c / 5) L, shL b, .lst (mvW (noSg (c / 5) L) b m), shL e]
  else if c % 5 = 1 then [.str (word L), noRow (c / 5) b, .lst (movD m), shL e]
  else if c % 5 = 2 then [.str (word L), shL b, .lst (movD m), noRow (c / 5) e]
  else if c % 5 = 3 ∨ m = [] ∨ b = [] then [.str (word L), shL b, (mvS m).getD (c / 5 % 5).toNat .non, shL e]
  else [.str (word L), shL b, .lst ((movD m).take (spA c m) ++ [tabW c b m] ++ (movD m).drop (spA c m + 1)), shL e]
theorem g4_s {s b m e : D} (h : isSg s = false) : good4 s b m e = false := by unfold good4; rw [h]; rfl
theorem g4_b {s b m e : D} (h : isRow (lenD b) b = false) : good4 s b m e = false := by unfold good4; rw [h]; simp
theorem g4_m {s b m e : D} (h : movOk (lenD b) (slen s) m = false) : good4 s b m e = false := by unfold good4; rw [h]; simp
theorem g4_e {s b m e : D} (h : isRow (lenD b) e = false) : good4 s b m e = false := by unfold good4; rw [h]; simp
theorem lenD_sh (b : List (Int × Int)) : lenD (shL b) = b.length := by show (b.map sh).length = _; rw [List.length_map]
theorem isTab_bad {n : Nat} {es : List D} {x : D} (hx : x ∈ es) (hs : isRow n x = false) : isTab n (.lst es) = false := by
  show (decide (es.length = n) && es.all (isRow n)) = false
  rw [Bool.and_eq_false_iff]
  refine .inr ?_
  rw [List.all_eq_false]
  exact ⟨x, hx, by rw [hs]; decide⟩
theorem isTab_len {n : Nat} {es : List D} (h : es.length ≠ n) : isTab n (.lst es) = false := by
  show (decide (es.length = n) && es.all (isRow n)) = false
  rw [decide_eq_false h, Bool.false_and]
theorem movOk_bad {n k : Nat} {es : List D} {x : D} (hx : x ∈ es) (hs : isTab n x = false) : movOk n k (.lst es) = false := by
  show (decide (es.length = k) && es.all (isTab n)) = false
  rw [Bool.and_eq_false_iff]
  refine .inr ?_
  rw [List.all_eq_false]
  exact ⟨x, hx, by rw [hs]; decide⟩
theorem movOk_len {n k : Nat} {es : List D} (h : es.length ≠ k) : movOk n k (.lst es) = false := by
  show (decide (es.length = k) && es.all (isTab n)) = false
  rw [decide_eq_false h, Bool.false_and]
theorem mvS_bad {n : Nat} (m : List (List (List (Int × Int)))) : ∀ d ∈ mvS m, movOk n m.length d = false := by
  have l : (movD m).length = m.length := List.length_map _
  unfold mvS
  simp only [List.forall_mem_cons]
  refine ⟨movOk_len (by rw [List.length_append, l]; show _ + 1 ≠ _; omega), rfl, rfl, movOk_len (by rw [List.length_append, l]; show _ + 1 ≠ _; omega), ?_, fun x hx => nomatch hx⟩
  by_cases h1 : m.length = 1
  · obtain ⟨U, rfl⟩ := List.length_eq_one_iff.mp h1
    refine movOk_bad (x := .lst (movD [U])) (by simp) ?_
    by_cases hn : n = 1
    · subst hn
      refine isTab_bad (x := tabL U) (by simp [movD]) ?_
      by_cases hU : U.length = 1
      · obtain ⟨r, rfl⟩ := List.length_eq_one_iff.mp hU
        exact isRow_bad (x := shL r) (by simp [tabL]) rfl
      · exact isRow_len (by rw [List.length_map]; exact hU)
    · exact isTab_len fun z => hn (by rw [← z]; rfl)
  · exact movOk_len fun z => h1 (by rw [← z]; rfl)
theorem pt_shL (r : List (Int × Int)) : Pt (shL r) := ⟨⟨_, rfl⟩, fun x y e => by cases e⟩
theorem all_take {α : Type} {p : α → Prop} {xs : List α} {k : Nat} (h : ∀ x ∈ xs, p x) : ∀ x ∈ xs.take k, p x := fun x hx => h x (List.mem_of_mem_take hx)
theorem all_drop {α : Type} {p : α → Prop} {xs : List α} {k : Nat} (h : ∀ x ∈ xs, p x) : ∀ x ∈ xs.drop k, p x := fun x hx => h x (List.mem_of_mem_drop hx)
theorem all_app {α : Type} {p : α → Prop} {xs ys : List α} (h : ∀ x ∈ xs, p x) (h2 : ∀ x ∈ ys, p x) : ∀ x ∈ xs ++ ys, p x := fun x hx => (List.mem_append.mp hx).elim (h x) (h2 x)
theorem all_one {α : Type} {p : α → Prop} {y : α} (h : p y) : ∀ x ∈ [y], p x := fun x hx => by rw [List.mem_singleton] at hx; subst hx; exact h
theorem all_rep {α : Type} {p : α → Prop} {y : α} {n : Nat} (h : p y) : ∀ x ∈ (List.replicate n [y]).flatten, p x := fun x hx => by
  obtain ⟨l, hl, hx⟩ := List.mem_flatten.mp hx
  rw [(List.mem_replicate.mp hl).2, List.mem_singleton] at hx
  subst hx
  exact h
theorem rep_len {α : Type} {y : α} {n : Nat} : ((List.replicate n [y]).flatten).length = n := by
  induction n with
  | zero => rfl
  | succ n ih => rw [List.replicate_succ, List.flatten_cons, List.length_append, ih]; show 1 + n = _; omega
theorem blank_k {b : List (Int × Int)} (h : b.length ≤ 100) : TabK (blank b) := tabK_lst (by rw [List.length_map]; omega) fun d hd => by
  obtain ⟨_, _, rfl⟩ := List.mem_map.mp hd
  exact rowK_lst (by rw [rep_len]; omega) (all_rep (pt_sh (0, 1)))
theorem set_mem {α : Type} {xs : List α} {i : Nat} (h : i < xs.length) (y : α) : y ∈ xs.set i y := by
  have hi : i < (xs.set i y).length := by rw [List.length_set]; exact h
  exact List.mem_iff_getElem.mpr ⟨i, hi, List.getElem_set_self hi⟩
section
variable {L : List Nat} {b : List (Int × Int)} {m : List (List (List (Int × Int)))} {e : List (Int × Int)} {c : Int}
theorem mv_all (G : GoodM (word L) b m e) : (movD m).length = m.length ∧ m.length ≤ 6 ∧ ∀ d ∈ movD m, TabK d :=
  ⟨List.length_map _, by have := G.ml; have := G.sg.1; omega, (G.wide.m4.m.2 _ rfl).2⟩
theorem spA_lt (h : m ≠ []) : spA c m < m.length := mod_lt' _ _ (List.length_pos_iff.mpr h)
theorem spL_lt (h : b ≠ []) : spL c b < b.length := mod_lt' _ _ (List.length_pos_iff.mpr h)
theorem spU_in (h : m ≠ []) : spU c m ∈ m := getD_in (spA_lt h) _
theorem spU_len (G : GoodM (word L) b m e) (h : m ≠ []) : (spU c m).length = b.length := (G.gm _ (spU_in h)).1
theorem spR_in (G : GoodM (word L) b m e) (h : m ≠ []) (hb : b ≠ []) : spR1 c b m ∈ spU c m := getD_in (by rw [spU_len G h]; exact spL_lt hb) _
theorem spR_len (G : GoodM (word L) b m e) (h : m ≠ []) (hb : b ≠ []) : (spR1 c b m).length = b.length := ((G.gm _ (spU_in h)).2 _ (spR_in G h hb)).1
theorem spU_k (G : GoodM (word L) b m e) (h : m ≠ []) : ∀ d ∈ (spU c m).map shL, RowK d := fun d hd => by
  obtain ⟨r, hr, rfl⟩ := List.mem_map.mp hd
  have := ((G.gm _ (spU_in h)).2 _ hr).1
  have := G.few
  exact rowK_sh (by omega)
theorem spT_k (G : GoodM (word L) b m e) (h : m ≠ []) (hb : b ≠ []) : ∀ d ∈ spT c b m, RowK d := fun d hd => by
  have := spR_len (c := c) G h hb
  have := G.few
  rcases List.mem_or_eq_of_mem_set hd with q | q
  · exact spU_k G h d q
  · rw [q]
    exact noRow_k _ (by omega)
theorem spT_len (G : GoodM (word L) b m e) (h : m ≠ []) : (spT c b m).length = b.length := by
  unfold spT
  rw [List.length_set, List.length_map, spU_len G h]
theorem tabW_ok (G : GoodM (word L) b m e) (h : m ≠ []) (hb : b ≠ []) : TabK (tabW c b m) ∧ isTab b.length (tabW c b m) = false := by
  have lU := spU_len (c := c) G h
  have lR := spR_len (c := c) G h hb
  have lT := spT_len (c := c) G h
  have lL := spL_lt (c := c) hb
  have few := G.few
  have kU := spU_k (c := c) G h
  have kT := spT_k (c := c) G h hb
  unfold tabW
  split
  · have all : ∀ d ∈ tabS c b m, TabK d ∧ isTab b.length d = false := by
      unfold tabS
      simp only [List.forall_mem_cons]
      refine ⟨⟨tabK_lst (by rw [List.length_take]; omega) (all_take kT), isTab_len (by rw [List.length_take]; omega)⟩, ⟨tabK_lst ?_ (all_app kU (all_one (rowK_sh (by omega)))), isTab_len ?_⟩, ⟨tabK_no ⟨_, rfl⟩ rfl, rfl⟩, ⟨tabK_no ⟨_, rfl⟩ rfl, rfl⟩, fun x hx => nomatch hx⟩
      · rw [List.length_append, List.length_map]; show _ + 1 ≤ _; omega
      · rw [List.length_append, List.length_map]; show _ + 1 ≠ _; omega
    exact all _ (getD_in (mod_lt' _ 4 (by decide)) _)
  · refine ⟨tabK_lst (by omega) kT, isTab_bad (x := noRow (c / 5 / 21) (spR1 c b m)) ?_ (by rw [← lR]; exact noRow_bad _ _)⟩
    exact set_mem (by rw [List.length_map]; omega) _
theorem spo_bad (G : GoodM (word L) b m e) (c : Int) : ∃ s' b' m' e', spo c L b m e = [s', b', m', e'] ∧ M4 [s', b', m', e'] s' b' m' e' ∧ good4 s' b' m' e' = false := by
  have h6 : L.length ≤ 6 := by have := G.sg.1; rw [word_len] at this; exact this
  obtain ⟨_, ks, kb, km, ke⟩ := G.wide.m4
  obtain ⟨ml, m6, mk⟩ := mv_all G
  have few := G.few
  have el := G.ge.1
  have mw : m.length = L.length := by rw [G.ml, word_len]
  have sl : slen (.str (word L)) = m.length := by show (word L).length = _; rw [word_len, mw]
  unfold spo
  split
  · obtain ⟨k1, k2⟩ := noSg_ok (c / 5) h6
    refine ⟨_, _, _, _, rfl, ⟨rfl, k1, kb, ?_, ke⟩, g4_s k2⟩
    have all : ∀ w, MovK (.lst (mvW w b m)) := fun w => by
      unfold mvW
      split
      · exact movK_lst (by rw [List.length_take, List.length_append, ml, rep_len]; omega) (all_take (all_app mk (all_rep (blank_k (by omega)))))
      · exact movK_lst (by omega) mk
    exact all _
  · split
    · refine ⟨_, _, _, _, rfl, ⟨rfl, ks, noRow_k _ (by omega), km, ke⟩, ?_⟩
      rcases noRow_or (c / 5) b with h | h
      · exact g4_b (h _)
      · rw [h]
        refine g4_e (isRow_len ?_)
        rw [List.length_map]
        show _ ≠ (b.map sh ++ [one1]).length
        rw [List.length_append, List.length_map]
        show _ ≠ _ + 1
        omega
    · split
      · refine ⟨_, _, _, _, rfl, ⟨rfl, ks, kb, km, noRow_k _ (by omega)⟩, g4_e ?_⟩
        rw [lenD_sh, ← el]
        exact noRow_bad _ _
      · split
        · have hin : (mvS m).getD (c / 5 % 5).toNat .non ∈ mvS m := getD_in (mod_lt' _ 5 (by decide)) _
          refine ⟨_, _, _, _, rfl, ⟨rfl, ks, kb, ?_, ke⟩, g4_m (by rw [sl]; exact mvS_bad m _ hin)⟩
          have all : ∀ d ∈ mvS m, MovK d := by
            unfold mvS
            simp only [List.forall_mem_cons]
            refine ⟨movK_lst ?_ (all_app mk (all_one (tabK_lst (by decide) fun x hx => nomatch hx))), movK_no ⟨_, rfl⟩ rfl, movK_no ⟨_, rfl⟩ rfl, movK_lst ?_ (all_app mk (all_one (tabK_no ⟨_, rfl⟩ rfl))), movK_lst (by show 1 ≤ _; omega) (all_one (tabK_lst (by omega) fun d hd => ?_)), fun x hx => nomatch hx⟩
            · rw [List.length_append, ml]; show _ + 1 ≤ _; omega
            · rw [List.length_append, ml]; show _ + 1 ≤ _; omega
            · obtain ⟨U, hU, rfl⟩ := List.mem_map.mp hd
              refine rowK_lst (by rw [List.length_map, (G.gm U hU).1]; omega) fun z hz => ?_
              obtain ⟨r, _, rfl⟩ := List.mem_map.mp hz
              exact pt_shL r
          exact all _ hin
        · rename_i h
          have hm : m ≠ [] := fun z => h (.inr (.inl z))
          have hb : b ≠ [] := fun z => h (.inr (.inr z))
          obtain ⟨t1, t2⟩ := tabW_ok (c := c) G hm hb
          refine ⟨_, _, _, _, rfl, ⟨rfl, ks, kb, movK_lst ?_ (all_app (all_app (all_take mk) (all_one t1)) (all_drop mk)), ke⟩, g4_m (movOk_bad (x := tabW c b m) (by simp) (by rw [lenD_sh]; exact t2))⟩
          rw [List.length_append, List.length_append, List.length_take, List.length_drop]
          show _ + 1 + _ ≤ _
          omega
end
/-! plain data -/
theorem pl_sh (p : Int × Int) : Pl 1 (sh p) := .tup fun d hd => by
  rcases List.mem_cons.mp hd with h | h
  · subst h; exact .int _
  · rcases List.mem_cons.mp h with h | h
    · subst h; exact .int _
    · cases h
theorem pl_shL (ps : List (Int × Int)) : Pl 2 (shL ps) := .lst fun d hd => by
  obtain ⟨p, _, rfl⟩ := List.mem_map.mp hd
  exact pl_sh p
theorem pl_tabL (U : List (List (Int × Int))) : Pl 3 (tabL U) := .lst fun d hd => by
  obtain ⟨p, _, rfl⟩ := List.mem_map.mp hd
  exact pl_shL p
theorem pl_mov (m : List (List (List (Int × Int)))) : Pl 4 (.lst (movD m)) := .lst fun d hd => by
  obtain ⟨p, _, rfl⟩ := List.mem_map.mp hd
  exact pl_tabL p
theorem eqD_nil (ds : List D) : eqD (.lst ds) (.lst []) = decide (ds = []) := by
  cases ds <;> simp [eqD, D.py, D.pyA, PyData.eqv, PyData.eqvAll]

theorem ixN_nat {n k : Nat} (h : k < n) : ixN n (k : Int) = some k := by
  unfold ixN
  rw [if_pos (by omega), if_pos (by omega)]
  simp
def Sso : List D → D → Prop := fun ds d => ∃ (L : List Nat) (b : List (Int × Int)) (m : List (List (List (Int × Int)))) (e : List (Int × Int)) (c : Int), ds = [.lst (mcA (word L) b m e), .int c] ∧ GoodM (word L) b m e ∧ d = .lst (spo c L b m e)
theorem ok_spoilt (T : Tx K mg a_WeighError a_Nought a_NoText a_NoRow a_NoMachine a_NoWord a_OtherSigns a_TooMany a_Machine a_NONE) (c__law_no_signs : Cl P w K mg base CX0 1 "_law_no_signs" (spR K Sns)) (c__law_no_row : Cl P w K mg base CX0 1 "_law_no_row" (spR K Snr)) : Cl P w K mg base CX0 2 "_law_spoilt" (spR K Sso) := by
  refine clR T.d__law_spoilt sc_law_spoilt (fun ds d h => by obtain ⟨_, _, _, _, _, rfl, _⟩ := h; rfl) fun f cdv A outer s H E hr => ?_
  refine ⟨_, (pss_cons (ps_asg (pv 0) (pg_lst rfl (pgs_cons (pg_name (i := 2) sc_law_spoilt.nd rfl (by first | exact Or.inl rfl | exact Or.inr rfl)) (pgs_cons (pg_name (i := 3) sc_law_spoilt.nd rfl (by first | exact Or.inl rfl | exact Or.inr rfl)) (pgs_cons (pg_name (i := 4) sc_law_spoilt.nd rfl (by first | exact Or.inl rfl | exact Or.inr rfl)) (pgs_cons (pg_name (i := 5) sc_law_spoilt.nd rfl (by first | exact Or.inl rfl | exact Or.inr rfl)) pgs_nil))))))
  (pss_cons (ps_set (i := 6) sc_law_spoilt.nd rfl (by first | exact Or.inl rfl | exact Or.inr rfl) (pe_op op_mod (pv 1) pe_int))
  (pss_cons (ps_set (i := 7) sc_law_spoilt.nd rfl (by first | exact Or.inl rfl | exact Or.inr rfl) (pe_op opFd (pv 1) pe_int))
  (pss_cons (ps_if (pt_cmpR (op_eqD hr.units) (pv 6) pe_int (nomark _))
  (pss_cons (ps_set (i := 8) sc_law_spoilt.nd rfl (by first | exact Or.inl rfl | exact Or.inr rfl) (pcl c__law_no_signs hr (by decide) rfl (pa_cons (pv 7) (pa_cons (pv 2) pa_nil))))
  (pss_cons (ps_setLc (i := 9) rfl sc_law_spoilt.nd rfl rfl (sw_true rfl rfl rfl (by decide +kernel)) (own := [("_law_room", 14)]) (pi_list (pv 3)) (blkOk_by (by kernel_rfl)) (fun _ _ _ _ _ => (pg_name (i := 14) sc_law_spoilt.nd rfl (by first | exact Or.inl rfl | exact Or.inr rfl))) (fun _ _ _ _ _ => pts_nil) (fun _ _ _ _ _ => (pe_op opMul (pe_lst (pa_cons (pe_tup (pa_cons pe_int (pa_cons pe_int pa_nil))) pa_nil)) (pe_callB (callLenK (K := K) rfl) (by rfl) T.n_len bt_len (pa_cons (pv 3) pa_nil)))))
  (pss_cons (ps_if (pt_val (pe_callB call_isi (by rfl) T.n_isinstance bt_isinstance (pa_cons (pv 8) (pa_cons (pe_bltn (v := .ty "str") (by rfl) T.n_str bt_str rfl) pa_nil))))
  (pss_one (ps_set (i := 4) sc_law_spoilt.nd rfl (by first | exact Or.inl rfl | exact Or.inr rfl) (pe_slice slA (pe_op opAdd (pv 4) (pe_op opMul (pe_lst (pa_cons (pv 9) pa_nil)) pe_int)) po_none (po_some (pe_callB callLen (by rfl) T.n_len bt_len (pa_cons (pv 8) pa_nil))))))
  pss_nil)
  (pss_one (ps_ret (pe_lst (pa_cons (pv 8) (pa_cons (pv 3) (pa_cons (pv 4) (pa_cons (pv 5) pa_nil))))))))))
  pss_nil)
  (pss_cons (ps_if (pt_cmpR (op_eqD hr.units) (pv 6) pe_int (nomark _))
  (pss_one (ps_ret (pe_lst (pa_cons (pv 2) (pa_cons (pcl c__law_no_row hr (by decide) rfl (pa_cons (pv 7) (pa_cons (pv 3) pa_nil))) (pa_cons (pv 4) (pa_cons (pv 5) pa_nil)))))))
  pss_nil)
  (pss_cons (ps_if (pt_cmpR (op_eqD hr.units) (pv 6) pe_int (nomark _))
  (pss_one (ps_ret (pe_lst (pa_cons (pv 2) (pa_cons (pv 3) (pa_cons (pv 4) (pa_cons (pcl c__law_no_row hr (by decide) rfl (pa_cons (pv 7) (pa_cons (pv 5) pa_nil))) pa_nil)))))))
  pss_nil)
  (pss_cons (ps_if (PW.pt (pw_or (pt_cmpR (op_eqD hr.units) (pv 6) pe_int (nomark _)) (pw_or (pt_cmpR (op_eqD hr.units) (pv 4) (pe_lst pa_nil) (nomark _)) (pw_or1 (pt_cmpR (op_eqD hr.units) (pv 3) (pe_lst pa_nil) (nomark _))))))
  (pss_cons (ps_set (i := 10) sc_law_spoilt.nd rfl (by first | exact Or.inl rfl | exact Or.inr rfl) (pe_lst (pa_cons (pe_op opAdd (pv 4) (pe_lst (pa_cons (pe_lst pa_nil) pa_nil))) (pa_cons pe_non (pa_cons (pe_callTy call_tuple_of (by rfl) T.n_tuple bt_tuple (pa_cons (pv 4) pa_nil)) (pa_cons (pe_op opAdd (pv 4) (pe_lst (pa_cons pe_non pa_nil))) (pa_cons (pe_lst (pa_cons (pv 4) pa_nil)) pa_nil)))))))
  (pss_one (ps_ret (pe_lst (pa_cons (pv 2) (pa_cons (pv 3) (pa_cons (pe_ix ix_seq (pv 10) (pe_op op_mod (pv 7) pe_int) (fun _ _ => rfl)) (pa_cons (pv 5) pa_nil))))))))
  pss_nil)
  (pss_cons (ps_set (i := 11) sc_law_spoilt.nd rfl (by first | exact Or.inl rfl | exact Or.inr rfl) (pe_op op_mod (pv 7) (pe_callB callLen (by rfl) T.n_len bt_len (pa_cons (pv 4) pa_nil))))
  (pss_cons (ps_set (i := 12) sc_law_spoilt.nd rfl (by first | exact Or.inl rfl | exact Or.inr rfl) (pe_op op_mod (pe_op opFd (pv 7) pe_int) (pe_callB callLen (by rfl) T.n_len bt_len (pa_cons (pv 3) pa_nil))))
  (pss_cons (ps_set (i := 13) sc_law_spoilt.nd rfl (by first | exact Or.inl rfl | exact Or.inr rfl) (pe_callTy callList (by rfl) T.n_list bt_list (pa_cons (pe_ix ix_seq (pv 4) (pv 11) (fun _ _ => rfl)) pa_nil)))
  (pss_cons (ps_asg (pcl c__law_no_row hr (by decide) rfl (pa_cons (pe_op opFd (pv 7) pe_int) (pa_cons (pe_ix ix_seq (pv 13) (pv 12) (fun _ _ => rfl)) pa_nil))) (pg_sub (pv 13) (pv 12) set_list))
  (pss_cons (ps_if (pt_cmpR (op_eqD hr.units) (pe_op op_mod (pe_op opFd (pv 7) pe_int) pe_int) pe_int (nomark _))
  (pss_one (ps_set (i := 13) sc_law_spoilt.nd rfl (by first | exact Or.inl rfl | exact Or.inr rfl) (pe_ix ix_seq (pe_lst (pa_cons (pe_slice slA (pv 13) po_none (po_some (pv 12))) (pa_cons (pe_op opAdd (pe_ix ix_seq (pv 4) (pv 11) (fun _ _ => rfl)) (pe_lst (pa_cons (pe_ix ix_seq (pe_ix ix_seq (pv 4) (pv 11) (fun _ _ => rfl)) (pv 12) (fun _ _ => rfl)) pa_nil))) (pa_cons pe_non (pa_cons (pe_callTy call_tuple_of (by rfl) T.n_tuple bt_tuple (pa_cons (pe_ix ix_seq (pv 4) (pv 11) (fun _ _ => rfl)) pa_nil)) pa_nil))))) (pe_op op_mod (pe_op opFd (pv 7) pe_int) pe_int) (fun _ _ => rfl))))
  pss_nil)
  (pss_one (ps_ret (pe_lst (pa_cons (pv 2) (pa_cons (pv 3) (pa_cons (pe_op opAdd (pe_op opAdd (pe_slice slA (pv 4) po_none (po_some (pv 11))) (pe_lst (pa_cons (pv 13) pa_nil))) (pe_slice slA (pv 4) (po_some (pe_op opAdd (pv 11) pe_int)) po_none)) (pa_cons (pv 5) pa_nil))))))))))))))))))), fun ds d h => ?_⟩
  obtain ⟨L, b, m, e, c, rfl, G, rfl⟩ := h
  have h6 : L.length ≤ 6 := by have := G.sg.1; rw [word_len] at this; exact this
  obtain ⟨ml, m6, mk⟩ := mv_all G
  have few := G.few
  have el := G.ge.1
  let P4 : D := .lst (mcA (word L) b m e)
  let S : D := .str (word L)
  let B : D := shL b
  let M : D := .lst (movD m)
  let E' : D := shL e
  let G0 : Sl → Sl → Sl → Sl → Sl → Sl → Sl → Sl → Sl → Sl → Gam := fun s4 s6 s7 s8 s9 s10 s11 s12 s13 s14 => [.fz P4, .fz (.int c), .fz S, .fz B, s4, .fz E', s6, s7, s8, s9, s10, s11, s12, s13, s14]
  refine sd_seq (Γ1 := G0 (.fz M) .no .no .no .no .no .no .no .no .no) (sd_asg (ed_fz 0 rfl) (eg_lst (egs_cons (eg_name 2) (egs_cons (eg_name 3) (egs_cons (eg_name 4) (egs_cons (eg_name 5) egs_nil)))) rfl)) ?_
  refine sd_seq (Γ1 := G0 (.fz M) (.fz (.int (c % 5))) .no .no .no .no .no .no .no .no) (sd_set 6 (ed_op (ed_fz 1 rfl) (ed_int 5) (r2_mod (by decide)))) ?_
  let G1 : Sl → Sl → Sl → Sl → Sl → Sl → Sl → Gam := fun s8 s9 s10 s11 s12 s13 s14 => G0 (.fz M) (.fz (.int (c % 5))) (.fz (.int (c / 5))) s8 s9 s10 s11 s12 s13 s14
  refine sd_seq (Γ1 := G1 .no .no .no .no .no .no .no) (sd_set 7 (ed_op (ed_fz 1 rfl) (ed_int 5) (r2_fdP (by decide)))) ?_
  have w6 : ∀ {Γ : Gam} (j : Int), Γ[6]? = some (.fz (.int (c % 5))) → Et K (tTest (tOp (rEqD K) (tVar 6) (tC (.int j)))) Γ (decide (c % 5 = j)) := fun j h => et_test (ed_op (ed_fz 6 h) (ed_int j) r2_eqI)
  unfold spo
  by_cases h0 : c % 5 = 0
  · rw [if_pos h0]
    obtain ⟨k1, k2⟩ := noSg_ok (c / 5) h6
    let N : D := noSg (c / 5) L
    refine sd_stop (sd_ifT (et_is (w6 0 rfl) (decide_eq_true h0)) ?_) rfl
    refine sd_seq (Γ1 := G1 (.fz N) .no .no .no .no .no .no) (sd_set 8 (ed_call (ea_cons (ed_fz 7 rfl) (ea_cons (ed_fz 2 rfl) ea_nil)) ⟨c / 5, L, rfl, h6, rfl⟩)) ?_
    refine sd_seq (Γ1 := G1 (.fz N) (.fz (blank b)) .no .no .no .no .no) (sd_set 9 (ed_map b sh (fun _ => .lst (List.replicate b.length [D.tup [.int 0, .int 1]]).flatten) (ei_list (ed_fz 3 rfl)) (by omega) fun p hp => ⟨[14], _, eg_name 14, by simp, ed_is (ed_op (ed_lst (ea_cons (ed_tup (ea_cons (ed_int 0) (ea_cons (ed_int 1) ea_nil))) ea_nil)) (ed_is (ed_cb (ea_cons (ed_fz 3 rfl) ea_nil) rc_lenL) (congrArg D.int (show _ = ((b.length : Nat) : Int) by rw [List.length_map]))) (r2_mulL (by rw [Int.toNat_natCast]; show 1 * _ ≤ _; omega) (by omega))) (by rw [Int.toNat_natCast])⟩)) ?_
    have key : Sd K E0 (tIfS (L2.tB (tCB (rIsi K) (tCons (tVar 8) (tCons (tC (.ty "str")) tNil)))) (tAsg (tSl (rSlA K) (tOp rAddA (tVar 4) (tOp rMulA (tLst (tCons (tVar 9) tNil)) (tC (.int 7)))) tNoPart (tPart (tCB (rLenA K) (tCons (tVar 8) tNil)))) (gName 4)) tNext) (G1 (.fz N) (.fz (blank b)) .no .no .no .no .no) (.nx (G0 (.fz (.lst (mvW N b m))) (.fz (.int (c % 5))) (.fz (.int (c / 5))) (.fz N) (.fz (blank b)) .no .no .no .no .no)) := by
      by_cases hs : ∃ x, N = .str x
      · obtain ⟨x, hx⟩ := hs
        have lx : x.length ≤ 1000 := k1.2 x hx
        rw [hx]
        refine sd_ifT (et_B (ed_cb (ea_cons (ed_fz 8 rfl) (ea_cons (ed_ty _) ea_nil)) (isi_str ⟨_, rfl⟩ rfl))) (sd_set 4 (ed_is (ed_sl (ed_op (ed_fz 4 rfl) (ed_op (ed_lst (ea_cons (ed_fz 9 rfl) ea_nil)) (ed_int 7) (r2_mulL (by show 1 * 7 ≤ _; omega) (by omega))) (r2_addL (by rw [ml, show ((7 : Int).toNat) = 7 from rfl, rep_len]; omega))) eo_none (eo_some (ed_cb (ea_cons (ed_fz 8 rfl) ea_nil) (rc_lenS (by omega)))) rs_lst) (congrArg D.lst (cutD_to _ _))))
      · have e1 : isSt N = false := by
          cases q : N <;> first | rfl | exact absurd ⟨_, q⟩ hs
        have e2 : mvW N b m = movD m := by
          cases q : N <;> first | rfl | exact absurd ⟨_, q⟩ hs
        rw [e2]
        exact sd_ifF (et_B (ed_cb (ea_cons (ed_fz 8 rfl) (ea_cons (ed_ty _) ea_nil)) (isi_str k1.1 e1))) sd_next
    refine sd_seq key ?_
    exact sd_ret (ed_lst (ea_cons (ed_fz 8 rfl) (ea_cons (ed_fz 3 rfl) (ea_cons (ed_fz 4 rfl) (ea_cons (ed_fz 5 rfl) ea_nil)))))
  rw [if_neg h0]
  refine sd_seq (Γ1 := G1 .no .no .no .no .no .no .no) (sd_ifF (et_is (w6 0 rfl) (decide_eq_false h0)) sd_next) ?_
  by_cases h1 : c % 5 = 1
  · rw [if_pos h1]
    exact sd_stop (sd_ifT (et_is (w6 1 rfl) (decide_eq_true h1)) (sd_ret (ed_lst (ea_cons (ed_fz 2 rfl) (ea_cons (ed_call (ea_cons (ed_fz 7 rfl) (ea_cons (ed_fz 3 rfl) ea_nil)) ⟨c / 5, b, rfl, by omega, rfl⟩) (ea_cons (ed_fz 4 rfl) (ea_cons (ed_fz 5 rfl) ea_nil))))))) rfl
  rw [if_neg h1]
  refine sd_seq (Γ1 := G1 .no .no .no .no .no .no .no) (sd_ifF (et_is (w6 1 rfl) (decide_eq_false h1)) sd_next) ?_
  by_cases h2 : c % 5 = 2
  · rw [if_pos h2]
    exact sd_stop (sd_ifT (et_is (w6 2 rfl) (decide_eq_true h2)) (sd_ret (ed_lst (ea_cons (ed_fz 2 rfl) (ea_cons (ed_fz 3 rfl) (ea_cons (ed_fz 4 rfl) (ea_cons (ed_call (ea_cons (ed_fz 7 rfl) (ea_cons (ed_fz 5 rfl) ea_nil)) ⟨c / 5, e, rfl, by omega, rfl⟩) ea_nil))))))) rfl
  rw [if_neg h2]
  refine sd_seq (Γ1 := G1 .no .no .no .no .no .no .no) (sd_ifF (et_is (w6 2 rfl) (decide_eq_false h2)) sd_next) ?_
  have tm : Et K (tTest (tOp (rEqD K) (tVar 4) (tLst tNil))) (G1 .no .no .no .no .no .no .no) (decide (m = [])) := et_is (et_test (ed_op (ed_fz 4 rfl) (ed_lst ea_nil) (r2_eq (pl_mov m) (.lst (n := 0) fun d hd => nomatch hd)))) (by rw [eqD_nil]; exact decide_eq_decide.mpr List.map_eq_nil_iff)
  have tb : Et K (tTest (tOp (rEqD K) (tVar 3) (tLst tNil))) (G1 .no .no .no .no .no .no .no) (decide (b = [])) := et_is (et_test (ed_op (ed_fz 3 rfl) (ed_lst ea_nil) (r2_eq (pl_shL b) (.lst (n := 0) fun d hd => nomatch hd)))) (by show eqD (.lst (b.map sh)) _ = _; rw [eqD_nil]; exact decide_eq_decide.mpr List.map_eq_nil_iff)
  have t3 := et_or (w6 (Γ := G1 .no .no .no .no .no .no .no) 3 rfl) fun _ => et_or tm fun _ => tb
  by_cases h3 : c % 5 = 3 ∨ m = [] ∨ b = []
  · rw [if_pos h3]
    refine sd_stop (sd_ifT (et_is t3 (by
      rcases h3 with h | h | h
      · rw [decide_eq_true h]; rfl
      · rw [decide_eq_true h]; simp
      · rw [decide_eq_true h]; simp)) ?_) rfl
    refine sd_seq (Γ1 := G1 .no .no (.fz (.lst (mvS m))) .no .no .no .no) (sd_set 10 (ed_lst (ea_cons (ed_op (ed_fz 4 rfl) (ed_lst (ea_cons (ed_lst ea_nil) ea_nil)) (r2_addL (by rw [ml]; show _ + 1 ≤ _; omega))) (ea_cons ed_non (ea_cons (ed_cb (ea_cons (ed_fz 4 rfl) ea_nil) rc_tupL) (ea_cons (ed_op (ed_fz 4 rfl) (ed_lst (ea_cons ed_non ea_nil)) (r2_addL (by rw [ml]; show _ + 1 ≤ _; omega))) (ea_cons (ed_lst (ea_cons (ed_fz 4 rfl) ea_nil)) ea_nil))))))) ?_
    exact sd_ret (ed_lst (ea_cons (ed_fz 2 rfl) (ea_cons (ed_fz 3 rfl) (ea_cons (ed_op (ed_fz 10 rfl) (ed_op (ed_fz 7 rfl) (ed_int 5) (r2_mod (by decide))) (r2_ixL (atI_mod (k := 5) (mvS m) _ rfl (by decide) _))) (ea_cons (ed_fz 5 rfl) ea_nil)))))
  rw [if_neg h3]
  have h33 : ¬ c % 5 = 3 := fun z => h3 (.inl z)
  have hm : m ≠ [] := fun z => h3 (.inr (.inl z))
  have hb : b ≠ [] := fun z => h3 (.inr (.inr z))
  have m0 := List.length_pos_iff.mpr hm
  have b0 := List.length_pos_iff.mpr hb
  refine sd_seq (Γ1 := G1 .no .no .no .no .no .no .no) (sd_ifF (et_is t3 (by rw [decide_eq_false h33, decide_eq_false hm, decide_eq_false hb]; rfl)) sd_next) ?_
  let a : Nat := spA c m
  let l : Nat := spL c b
  have ha : a < m.length := spA_lt hm
  have hl : l < b.length := spL_lt hb
  have lU := spU_len (c := c) G hm
  have lR := spR_len (c := c) G hm hb
  have lT := spT_len (c := c) G hm
  let U := spU c m
  let R := spR1 c b m
  refine sd_seq (Γ1 := G1 .no .no .no (.fz (.int (a : Nat))) .no .no .no) (sd_set 11 (ed_is (ed_op (ed_fz 7 rfl) (ed_is (ed_cb (ea_cons (ed_fz 4 rfl) ea_nil) rc_lenL) (congrArg D.int (show _ = ((m.length : Nat) : Int) by rw [ml]))) (r2_mod (by omega))) (congrArg D.int (show _ = ((spA c m : Nat) : Int) by
    unfold spA
    have := Int.emod_nonneg (c / 5) (show (m.length : Int) ≠ 0 by omega)
    omega)))) ?_
  refine sd_seq (Γ1 := G1 .no .no .no (.fz (.int (a : Nat))) (.fz (.int (l : Nat))) .no .no) (sd_set 12 (ed_is (ed_op (ed_op (ed_fz 7 rfl) (ed_int 7) (r2_fdP (by decide))) (ed_is (ed_cb (ea_cons (ed_fz 3 rfl) ea_nil) rc_lenL) (congrArg D.int (show _ = ((b.length : Nat) : Int) by rw [List.length_map]))) (r2_mod (by omega))) (congrArg D.int (show _ = ((spL c b : Nat) : Int) by
    unfold spL
    have := Int.emod_nonneg (c / 5 / 7) (show (b.length : Int) ≠ 0 by omega)
    omega)))) ?_
  have ixm : atI (movD m) (a : Int) = some (tabL U) := atI_map m tabL [] ha
  have ixU : atI (U.map shL) (l : Int) = some (shL R) := atI_map U shL [] (show spL c b < (spU c m).length by rw [lU]; exact hl)
  refine sd_seq (Γ1 := G1 .no .no .no (.fz (.int (a : Nat))) (.fz (.int (l : Nat))) (.ow (U.map shL)) .no) (sd_setW 13 (ew_listL (ed_op (ed_fz 4 rfl) (ed_fz 11 rfl) (r2_ixL ixm)))) ?_
  refine sd_seq (Γ1 := G1 .no .no .no (.fz (.int (a : Nat))) (.fz (.int (l : Nat))) (.ow (spT c b m)) .no) (sd_put 13 rfl (ed_call (ea_cons (ed_op (ed_fz 7 rfl) (ed_int 21) (r2_fdP (by decide))) (ea_cons (ed_ixO 13 rfl (ed_fz 12 rfl) ixU) ea_nil)) ⟨c / 5 / 21, R, rfl, by show (spR1 c b m).length ≤ 100; omega, rfl⟩) (ed_fz 12 rfl) (ixN_nat (show spL c b < ((spU c m).map shL).length by rw [List.length_map, lU]; exact hl))) ?_
  refine sd_freeze 13 rfl ?_
  let G3 : Sl → Gam := fun s13 => G1 .no .no .no (.fz (.int (a : Nat))) (.fz (.int (l : Nat))) s13 .no
  have i4 : Ed K (tOp (rIx K) (tVar 4) (tVar 11)) (G3 (.fz (.lst (spT c b m)))) (tabL U) := ed_op (ed_fz 4 rfl) (ed_fz 11 rfl) (r2_ixL ixm)
  refine sd_seq (Γ1 := G3 (.fz (tabW c b m))) ?_ ?_
  · unfold tabW
    have tt : Et K (tTest (tOp (rEqD K) (tOp (rI (fun _ j => 0 < j) fun i j => .int (i % j)) (tOp rFdA (tVar 7) (tC (.int 3))) (tC (.int 4))) (tC (.int 1)))) (G3 (.fz (.lst (spT c b m)))) (decide (c / 5 / 3 % 4 = 1)) := et_test (ed_op (ed_op (ed_op (ed_fz 7 rfl) (ed_int 3) (r2_fdP (by decide))) (ed_int 4) (r2_mod (by decide))) (ed_int 1) r2_eqI)
    by_cases h4 : c / 5 / 3 % 4 = 1
    · rw [if_pos h4]
      refine sd_ifT (et_is tt (decide_eq_true h4)) (sd_set 13 (ed_op (ed_is (ed_lst (ea_cons (ed_is (ed_sl (ed_fz 13 rfl) eo_none (eo_some (ed_fz 12 rfl)) rs_lst) (congrArg D.lst (cutD_to (spT c b m) l))) (ea_cons (ed_op i4 (ed_lst (ea_cons (ed_op i4 (ed_fz 12 rfl) (r2_ixL ixU)) ea_nil)) (r2_addL (by rw [List.length_map]; show (spU c m).length + 1 ≤ _; omega))) (ea_cons ed_non (ea_cons (ed_cb (ea_cons i4 ea_nil) rc_tupL) ea_nil))))) (show _ = D.lst (tabS c b m) from rfl)) (ed_op (ed_op (ed_fz 7 rfl) (ed_int 12) (r2_fdP (by decide))) (ed_int 4) (r2_mod (by decide))) (r2_ixL (atI_mod (k := 4) (tabS c b m) _ rfl (by decide) _))))
    · rw [if_neg h4]
      exact sd_ifF (et_is tt (decide_eq_false h4)) sd_next
  · have b1 : ((movD m).take a).length ≤ 6 := by rw [List.length_take, ml]; omega
    have b2 : ((movD m).drop (a + 1)).length ≤ 6 := by rw [List.length_drop, ml]; omega
    refine sd_ret (ed_lst (ea_cons (ed_fz 2 rfl) (ea_cons (ed_fz 3 rfl) (ea_cons (ed_op (ed_op (ed_is (ed_sl (ed_fz 4 rfl) eo_none (eo_some (ed_fz 11 rfl)) rs_lst) (congrArg D.lst (cutD_to (movD m) a))) (ed_lst (ea_cons (ed_fz 13 rfl) ea_nil)) (r2_addL (by show _ + 1 ≤ _; omega))) (ed_is (ed_sl (ed_fz 4 rfl) (eo_some (ed_is (ed_op (ed_fz 11 rfl) (ed_int 1) r2_addI) (show _ = D.int ((a + 1 : Nat) : Int) from congrArg D.int (by push_cast; rfl)))) eo_none rs_lst) (congrArg D.lst (cutD_from (movD m) (a + 1)))) (r2_addL (by rw [List.length_append]; show (_ + 1) + _ ≤ _; omega))) (ea_cons (ed_fz 5 rfl) ea_nil)))))

/-! ### the parts, the rooms, wide machines -/
def Srm (C : Addr) : List D → D → Prop := fun ds d => ∃ x b m e, ds = [.ins C (mcF x b m e)] ∧ d = .int (b.length : Nat)
theorem ok_rooms (T : Tx K mg a_WeighError a_Nought a_NoText a_NoRow a_NoMachine a_NoWord a_OtherSigns a_TooMany a_Machine a_NONE) : Cl P w K mg base CX0 1 "rooms" (spR K (Srm a_Machine)) := by
  refine clR T.d_rooms sc_rooms (fun ds d h => by obtain ⟨_, _, _, _, rfl, _⟩ := h; rfl) fun f cdv A outer s H E hr => ?_
  refine ⟨_, (pss_one (ps_ret (pe_callB callLen (by rfl) T.n_len bt_len (pa_cons (pe_fld (pv 0) rfl) pa_nil)))), fun ds d h => ?_⟩
  obtain ⟨x, b, m, e, rfl, rfl⟩ := h
  exact sd_ret (ed_is (ed_cb (ea_cons (ed_fld (ed_fz 0 rfl) T.cl_Machine T.na_Machine_begins rfl) ea_nil) rc_lenL) (by rw [List.length_map]))
theorem goodM_of {L : List Nat} {n : Nat} {b e : List Int} {ms : List (List (List Int))} {s0 s1 s2 : Int} (hL : SgOk (word L)) (M : Mz n b e ms s0 s1 s2) (hk : ms.length = L.length) : GoodM (word L) (rwS s0 b) (ms.map fun U => U.map (rwS s1)) (rwS s2 e) := by
  have lb : (rwS s0 b).length = n := by rw [← M.bl]; exact List.length_map _
  refine ⟨hL, by rw [lb]; exact M.few, ?_, by rw [List.length_map, word_len]; exact hk, fun V hV => ?_, ?_⟩
  · rw [lb, ← M.bl]; exact good_rw M.z0.1 b
  · obtain ⟨U, hU, rfl⟩ := List.mem_map.mp hV
    obtain ⟨u1, u2⟩ := M.sq U hU
    refine ⟨by rw [List.length_map, u1, lb], fun r hr => ?_⟩
    obtain ⟨q, hq, rfl⟩ := List.mem_map.mp hr
    have z := good_rw M.z1.1 q
    rw [u2 q hq] at z
    rw [lb]
    exact z
  · rw [lb, ← M.el]; exact good_rw M.z2.1 e
def Spt : List D → D → Prop := fun ds d => ∃ (L : List Nat) (n : Nat) (b e : List Int) (ms : List (List (List Int))) (s0 s1 s2 : Int), ds = [.str (word L), topsD b ms e, intL [s0, s1, s2]] ∧ Mz n b e ms s0 s1 s2 ∧ d = .lst (mcA (word L) (rwS s0 b) (ms.map fun U => U.map (rwS s1)) (rwS s2 e))
theorem ok_parts (T : Tx K mg a_WeighError a_Nought a_NoText a_NoRow a_NoMachine a_NoWord a_OtherSigns a_TooMany a_Machine a_NONE) (c__law_row : Cl P w K mg base CX0 3 "_law_row" (spR K Slr)) : Cl P w K mg base CX0 4 "_law_parts" (spR K Spt) := by
  refine clR T.d__law_parts sc_law_parts (fun ds d h => by obtain ⟨_, _, _, _, _, _, _, _, rfl, _⟩ := h; rfl) fun f cdv A outer s H E hr => ?_
  refine ⟨_, (pss_cons (ps_setLc (i := 3) rfl sc_law_parts.nd rfl rfl (sw_true rfl rfl rfl (by decide +kernel)) (own := [("_law_table", 4)]) (pi_list (pe_ix ix_seq (pv 1) pe_int (fun _ _ => rfl))) (blkOk_by (by kernel_rfl)) (fun _ _ _ _ _ => (pg_name (i := 4) sc_law_parts.nd rfl (by first | exact Or.inl rfl | exact Or.inr rfl))) (fun _ _ _ _ _ => pts_nil) (fun _ _ _ _ _ => (pe_lc rfl sc_law_parts.nd (own := [("_law_row_here", 5)]) (pi_cast (pi_list (pv 4)) (rfl : _ = iList K _)) (blkOk_by (by kernel_rfl)) (fun _ _ _ _ _ => (pg_name (i := 5) sc_law_parts.nd rfl (by first | exact Or.inl rfl | exact Or.inr rfl))) (fun _ _ _ _ _ => pts_nil) (fun _ _ _ _ _ => (pcl c__law_row hr (by decide) rfl (pa_cons (pv 5) (pa_cons (pe_ix (ix_seqK (K := K) rfl) (pv 2) pe_int (fun _ _ => rfl)) pa_nil)))))))
  (pss_one (ps_ret (pe_lst (pa_cons (pv 0) (pa_cons (pcl c__law_row hr (by decide) rfl (pa_cons (pe_ix ix_seq (pv 1) pe_int (fun _ _ => rfl)) (pa_cons (pe_ix ix_seq (pv 2) pe_int (fun _ _ => rfl)) pa_nil))) (pa_cons (pv 3) (pa_cons (pcl c__law_row hr (by decide) rfl (pa_cons (pe_ix ix_seq (pv 1) pe_int (fun _ _ => rfl)) (pa_cons (pe_ix ix_seq (pv 2) pe_int (fun _ _ => rfl)) pa_nil))) pa_nil)))))))), fun ds d h => ?_⟩
  obtain ⟨L, n, b, e, ms, s0, s1, s2, rfl, M, rfl⟩ := h
  have few := M.few
  have m6 := M.ml
  have hb := M.bl
  have he := M.el
  have hU := M.sq
  refine sd_seq (Γ1 := [.fz (.str (word L)), .fz (topsD b ms e), .fz (intL [s0, s1, s2]), .fz (.lst ((ms.map fun U => U.map (rwS s1)).map tabL)), .no, .no]) (sd_set 3 (ed_is (ed_map ms tabI (fun U => tabL (U.map (rwS s1))) (ei_list (ed_op (ed_fz 1 rfl) (ed_int 1) (r2_ixT rfl))) (by omega) fun U hUm => ⟨[4], _, eg_name 4, by simp, ed_is (ed_map U intL (fun r => shL (rwS s1 r)) (ei_list (ed_fz 4 rfl)) (by rw [(hU U hUm).1]; omega) fun r hr => ⟨[5], _, eg_name 5, by simp, ed_call (ea_cons (ed_fz 5 rfl) (ea_cons (ed_op (ed_fz 2 rfl) (ed_int 1) (r2_ixL rfl)) ea_nil)) ⟨r, s1, 7, rfl, M.z1, by decide, by rw [(hU U hUm).2 r hr]; omega, rfl⟩⟩) ?_⟩) ?_)) ?_
  · unfold tabL; rw [List.map_map]; rfl
  · rw [List.map_map]; rfl
  exact sd_ret (ed_lst (ea_cons (ed_fz 0 rfl) (ea_cons (ed_call (ea_cons (ed_op (ed_fz 1 rfl) (ed_int 0) (r2_ixT rfl)) (ea_cons (ed_op (ed_fz 2 rfl) (ed_int 0) (r2_ixL rfl)) ea_nil)) ⟨b, s0, 10, rfl, M.z0, by decide, by omega, rfl⟩) (ea_cons (ed_fz 3 rfl) (ea_cons (ed_call (ea_cons (ed_op (ed_fz 1 rfl) (ed_int 2) (r2_ixT rfl)) (ea_cons (ed_op (ed_fz 2 rfl) (ed_int 2) (r2_ixL rfl)) ea_nil)) ⟨e, s2, 10, rfl, M.z2, by decide, by omega, rfl⟩) ea_nil)))))
def ones (n : Nat) : List (Int × Int) := List.replicate n (1, 1)
def onesT (l : List Nat) (n : Nat) : List (List (List (Int × Int))) := l.map fun _ => List.replicate n (ones n)
def wideD (l : List Nat) (n : Nat) : D := .lst (mcA (word l) (ones n) (onesT l n) (ones n))
theorem rep_sh (n : Nat) : (List.replicate n [D.tup [.int 1, .int 1]]).flatten = (ones n).map sh := by
  induction n with
  | zero => rfl
  | succ n ih => rw [List.replicate_succ, List.flatten_cons, ih]; rfl
theorem ones_good (n : Nat) : GoodR n (ones n) := ⟨List.length_replicate, fun p hp => by rw [(List.mem_replicate.mp hp).2]; decide +kernel⟩
theorem wide_good {l : List Nat} {n : Nat} (hl : SgOk (word l)) (hn : n ≤ 100) : GoodW (word l) (ones n) (onesT l n) (ones n) := by
  have lo : (ones n).length = n := List.length_replicate
  refine ⟨hl, by rw [lo]; exact hn, by rw [lo]; exact ones_good n, by unfold onesT; rw [List.length_map, word_len], fun U hU => ?_, by rw [lo]; exact ones_good n⟩
  obtain ⟨_, _, rfl⟩ := List.mem_map.mp hU
  rw [lo]
  exact ⟨List.length_replicate, fun r hr => by rw [(List.mem_replicate.mp hr).2]; exact ones_good n⟩
def Swi : List D → D → Prop := fun ds d => ∃ (l : List Nat) (n : Nat), ds = [.int (n : Nat), .str (word l)] ∧ n ≤ 100 ∧ l.length ≤ 10 ∧ d = wideD l n
theorem ok_wide (T : Tx K mg a_WeighError a_Nought a_NoText a_NoRow a_NoMachine a_NoWord a_OtherSigns a_TooMany a_Machine a_NONE) : Cl P w K mg base CX0 1 "_law_wide" (spR K Swi) := by
  refine clR T.d__law_wide sc_law_wide (fun ds d h => by obtain ⟨_, _, rfl, _⟩ := h; rfl) fun f cdv A outer s H E hr => ?_
  refine ⟨_, (pss_cons (ps_set (i := 2) sc_law_wide.nd rfl (by first | exact Or.inl rfl | exact Or.inr rfl) (pe_op opMul (pe_lst (pa_cons (pe_tup (pa_cons pe_int (pa_cons pe_int pa_nil))) pa_nil)) (pv 0)))
  (pss_one (ps_ret (pe_lst (pa_cons (pv 1) (pa_cons (pe_callTy callList (by rfl) T.n_list bt_list (pa_cons (pv 2) pa_nil)) (pa_cons (pe_lc rfl sc_law_wide.nd (own := [("_law_one", 3)]) (pi_str (pv 1)) (blkOk_by (by kernel_rfl)) (fun _ _ _ _ _ => (pg_name (i := 3) sc_law_wide.nd rfl (by first | exact Or.inl rfl | exact Or.inr rfl))) (fun _ _ _ _ _ => pts_nil) (fun _ _ _ _ _ => (pe_lc rfl sc_law_wide.nd (own := [("_law_k", 4)]) (pi_range1 rfl T.n_range (pa_cons (pv 0) pa_nil)) (blkOk_by (by kernel_rfl)) (fun _ _ _ _ _ => (pg_name (i := 4) sc_law_wide.nd rfl (by first | exact Or.inl rfl | exact Or.inr rfl))) (fun _ _ _ _ _ => pts_nil) (fun _ _ _ _ _ => (pe_callTy (callListK (K := K) rfl) (by rfl) T.n_list bt_list (pa_cons (pv 2) pa_nil)))))) (pa_cons (pe_callTy callList (by rfl) T.n_list bt_list (pa_cons (pv 2) pa_nil)) pa_nil)))))))), fun ds d h => ?_⟩
  obtain ⟨l, n, rfl, hn, hl, rfl⟩ := h
  refine sd_seq (Γ1 := [.fz (.int (n : Nat)), .fz (.str (word l)), .fz (shL (ones n)), .no, .no]) (sd_set 2 (ed_is (ed_op (ed_lst (ea_cons (ed_tup (ea_cons (ed_int 1) (ea_cons (ed_int 1) ea_nil))) ea_nil)) (ed_fz 0 rfl) (r2_mulL (by rw [Int.toNat_natCast]; show 1 * _ ≤ _; omega) (by omega))) (by rw [Int.toNat_natCast, rep_sh]; rfl))) ?_
  refine sd_ret (ed_lst (ea_cons (ed_fz 1 rfl) (ea_cons (ed_cb (ea_cons (ed_fz 2 rfl) ea_nil) rc_listL) (ea_cons (ed_is (ed_map l (fun c => .str (word [c])) (fun _ => tabL (List.replicate n (ones n))) (Ei.is (ei_str (ed_fz 1 rfl)) (sgn_word l)) (by omega) fun c hc => ⟨[3], _, eg_name 3, by simp, ed_is (ed_rg n (fun _ => shL (ones n)) 4 (by decide) (ed_fz 0 rfl) (by omega) fun j hj => ed_cb (ea_cons (ed_fz 2 rfl) ea_nil) rc_listL) ?_⟩) ?_) (ea_cons (ed_cb (ea_cons (ed_fz 2 rfl) ea_nil) rc_listL) ea_nil)))))
  · unfold tabL
    rw [List.map_replicate]
    exact congrArg D.lst (by rw [List.map_const', List.length_range])
  · unfold onesT
    rw [List.map_map]; rfl
/-! plain data is itself -/
theorem eqvAll_refl : ∀ ds : List D, (∀ d ∈ ds, eqD d d = true) → PyData.eqvAll (D.pyA ds) (D.pyA ds) = true
  | [], _ => by simp [D.pyA, PyData.eqvAll]
  | d :: ds, h => by
    have h1 := h d List.mem_cons_self
    have h2 := eqvAll_refl ds fun x hx => h x (List.mem_cons_of_mem _ hx)
    unfold eqD at h1
    simp only [D.pyA, PyData.eqvAll, h1, h2, Bool.and_self]
theorem eqD_refl {n : Nat} {d : D} (h : Pl n d) : eqD d d = true := by
  induction h with
  | non => rfl
  | bl b => cases b <;> rfl
  | int i => simp [eqD, D.py, PyData.eqv]
  | str h => simp [eqD, D.py, PyData.eqv]
  | lst _ ih =>
    have := eqvAll_refl _ ih
    simp only [eqD, D.py, PyData.eqv, this]
  | tup _ ih =>
    have := eqvAll_refl _ ih
    simp only [eqD, D.py, PyData.eqv, this]
theorem strOk_sg {x : Str} (h : SgOk x) : PyData.strOk x = true := by
  unfold PyData.strOk
  rw [← Array.all_toList, List.all_eq_true]
  intro c hc
  have := (h.2.2 c hc).2
  exact decide_eq_true (by omega)
theorem pl_mcA {x : Str} {b : List (Int × Int)} {m : List (List (List (Int × Int)))} {e : List (Int × Int)} (h : SgOk x) : Pl 5 (.lst (mcA x b m e)) := .lst fun d hd => by
  simp only [mcA, List.mem_cons, List.not_mem_nil, or_false] at hd
  rcases hd with rfl | rfl | rfl | rfl
  · exact .str (strOk_sg h)
  · exact (pl_shL b).mono (by decide)
  · exact pl_mov m
  · exact (pl_shL e).mono (by decide)
def hTm (x : Str) (b : List (Int × Int)) (m : List (List (List (Int × Int)))) (e : List (Int × Int)) : Tr := hT x (b.map sh) (m.map fun U => U.map fun r => r.map sh) (e.map sh)
theorem toDs_map (ts : List Tr) : Tr.toDs ts = ts.map Tr.toD := by
  induction ts with
  | nil => rfl
  | cons t ts ih => rw [Tr.toDs, ih]; rfl
theorem hTm_D (x : Str) (b : List (Int × Int)) (m : List (List (List (Int × Int)))) (e : List (Int × Int)) : (hTm x b m e).toD = .lst (mcA x b m e) := by
  have lf : ∀ ds : List D, Tr.toD (.nd (ds.map .lf)) = .lst ds := fun ds => by
    rw [Tr.toD, toDs_map, List.map_map]
    congr 1
    exact List.map_id'' (fun d => rfl) ds
  unfold hTm hT mcA
  rw [Tr.toD]
  simp only [Tr.toDs]
  rw [lf, lf]
  simp only [Tr.toD, toDs_map, List.map_map]
  congr 4
  refine congrArg D.lst (List.map_congr_left fun U _ => ?_)
  show Tr.toD (.nd (List.map (fun r => Tr.nd (List.map Tr.lf r)) (List.map (fun r => List.map sh r) U))) = D.lst _
  rw [Tr.toD, toDs_map, List.map_map, List.map_map]
  exact congrArg D.lst (List.map_congr_left fun r _ => lf (r.map sh))

/-! ### the law -/
theorem nMa : (!eqD refMa refMa) = false := by rw [eqD_refl pl_refMa]; rfl
theorem nTo : (!eqD refTo refTo) = false := by rw [eqD_refl pl_refTo]; rfl
theorem nP {x : Str} {b : List (Int × Int)} {m : List (List (List (Int × Int)))} {e : List (Int × Int)} (h : SgOk x) : (!eqD (.lst (mcA x b m e)) (.lst (mcA x b m e))) = false := by rw [eqD_refl (pl_mcA h)]; rfl
theorem ok_law {f : Addr} {fd : FuncData} (T : Tx K mg a_WeighError a_Nought a_NoText a_NoRow a_NoMachine a_NoWord a_OtherSigns a_TooMany a_Machine a_NONE) (F : Fun K "law" "law" s_law f fd) : FnOk P w K mg base CX0 20 f fd ["_law_script"] (spLaw K) := by
  have c_divisor := ok_divisor (P := P) (w := w) (base := base) T
  have c_is_whole := ok_is_whole (P := P) (w := w) (base := base) T
  have c_is_share := ok_is_share T c_is_whole c_divisor
  have c_share := ok_share (P := P) (w := w) (base := base) T c_divisor
  have c_plus := ok_plus T c_share
  have c_times := ok_times T c_share
  have c_weighed := ok_weighed T c_plus c_times
  have c_led := ok_led T c_weighed
  have c_is_row := ok_is_rowG T c_is_share
  have c_Machine := ok_MachineG T (ok_needG T (ok_are_signsG T) c_is_row (ok_is_tableG T c_is_row))
  have c_row_of := ok_row_ofX T c_led
  have c_weight := ok_weightX T c_row_of c_weighed
  have c_rooms := ok_rooms (P := P) (w := w) (base := base) T
  have c__law_cell_at := ok_cell_at (P := P) (w := w) (base := base) T
  have c__law_share := ok_lshare T (ok_common (P := P) (w := w) (base := base) T)
  have c__law_drawn := ok_drawn T c__law_cell_at
  have c__law_top := ok_top (P := P) (w := w) (base := base) T
  have c__law_scales := ok_scales (P := P) (w := w) (base := base) T
  have c__law_signs := ok_signs (P := P) (w := w) (base := base) T
  have c__law_tops := ok_tops T c__law_drawn c__law_top
  have c__law_row := ok_lrow T c__law_share
  have c__law_parts := ok_parts T c__law_row
  have c__law_spoilt := ok_spoilt T (ok_no_signs (P := P) (w := w) (base := base) T) (ok_no_row (P := P) (w := w) (base := base) T)
  have c__law_wide := ok_wide (P := P) (w := w) (base := base) T
  have c__law_told := ok_told T c_Machine (ok_word_NoMachine T) (ok_word_TooMany T)
  have c__law_words_refused := ok_words_refused T (ok_word_refused T c_weight c_row_of (ok_word_NoWord T))
  refine fnLaw F sc_law rfl fun cdv A outer s H E hr => ?_
  refine ⟨_, (pss_cons (ps_set (i := 1) sc_law.nd rfl (by first | exact Or.inl rfl | exact Or.inr rfl) (pcl c__law_cell_at hr (by decide) rfl (pa_cons (pv 0) (pa_cons pe_int pa_nil))))
  (pss_cons (ps_set (i := 2) sc_law.nd rfl (by first | exact Or.inl rfl | exact Or.inr rfl) (pcl c__law_signs hr (by decide) rfl (pa_cons (pv 1) pa_nil)))
  (pss_cons (ps_set (i := 3) sc_law.nd rfl (by first | exact Or.inl rfl | exact Or.inr rfl) (pe_op op_mod (pe_op opFd (pv 1) pe_int) pe_int))
  (pss_cons (ps_set (i := 4) sc_law.nd rfl (by first | exact Or.inl rfl | exact Or.inr rfl) (pcl c__law_parts hr (by decide) rfl (pa_cons (pv 2) (pa_cons (pcl c__law_tops hr (by decide) rfl (pa_cons (pv 0) (pa_cons pe_int (pa_cons (pv 2) (pa_cons (pv 3) pa_nil))))) (pa_cons (pcl c__law_scales hr (by decide) rfl (pa_cons (pcl c__law_cell_at hr (by decide) rfl (pa_cons (pv 0) (pa_cons pe_int pa_nil))) pa_nil)) pa_nil)))))
  (pss_cons (ps_set (i := 5) sc_law.nd rfl (by first | exact Or.inl rfl | exact Or.inr rfl) (pcl c__law_cell_at hr (by decide) rfl (pa_cons (pv 0) (pa_cons pe_int pa_nil))))
  (pss_cons (ps_if (PW.pt (pw_and (pt_cmpR (op_eqD hr.units) (pe_op op_mod (pv 5) pe_int) pe_int (nomark _)) (pw_and1 (pt_cmpR (op_neD hr.units) (pcl c__law_told hr (by decide) rfl (pa_cons (pcl c__law_spoilt hr (by decide) rfl (pa_cons (pv 4) (pa_cons (pe_op opFd (pv 5) pe_int) pa_nil))) pa_nil)) (pe_tup (pa_cons pe_str (pa_cons pe_str pa_nil))) (nomark _)))))
  (pss_one (ps_ret pe_bl))
  pss_nil)
  (pss_cons (ps_if (pt_cmpR (op_eqD hr.units) (pe_op op_mod (pv 5) pe_int) pe_int (nomark _))
  (pss_cons (ps_set (i := 6) sc_law.nd rfl (by first | exact Or.inl rfl | exact Or.inr rfl) (pcl c__law_wide hr (by decide) rfl (pa_cons (pe_op opAdd pe_int (pe_op op_mod (pe_op opFd (pv 5) pe_int) pe_int)) (pa_cons (pe_slice slA (pv 2) po_none (po_some pe_int)) pa_nil))))
  (pss_cons (ps_set (i := 7) sc_law.nd rfl (by first | exact Or.inl rfl | exact Or.inr rfl) (pcl c__law_told hr (by decide) rfl (pa_cons (pv 6) pa_nil)))
  (pss_cons (ps_if (PW.pt (pw_and (pt_cmpR (op_eqD hr.units) (pe_op op_mod (pe_op opFd (pv 5) pe_int) pe_int) pe_int (nomark _)) (pw_and1 (pt_cmpR (op_neD hr.units) (pv 7) (pe_tup (pa_cons pe_str (pa_cons pe_str pa_nil))) (nomark _)))))
  (pss_one (ps_ret pe_bl))
  pss_nil)
  (pss_cons (ps_if (PW.pt (pw_and (pt_cmpR (op_eqD hr.units) (pe_op op_mod (pe_op opFd (pv 5) pe_int) pe_int) pe_int (nomark _)) (pw_and1 (PW.pt (pw_or (pt_not (pt_val (pe_callB call_isi (by rfl) T.n_isinstance bt_isinstance (pa_cons (pv 7) (pa_cons (pe_glob (v := .ref a_Machine) rfl T.m_Machine rfl) pa_nil))))) (pw_or1 (pt_cmpR (op_neD hr.units) (pcl c_rooms hr (by decide) rfl (pa_cons (pv 7) pa_nil)) pe_int (nomark _))))))))
  (pss_one (ps_ret pe_bl))
  pss_nil)
  (pss_one (ps_if (pt_cmpR (op_neD hr.units) (pcl c__law_told hr (by decide) rfl (pa_cons (pe_lst (pa_cons (pe_ix ix_seq (pv 6) pe_int (fun _ _ => rfl)) (pa_cons (pe_ix ix_seq (pv 6) pe_int (fun _ _ => rfl)) (pa_cons (pe_ix ix_seq (pv 6) pe_int (fun _ _ => rfl)) (pa_cons (pe_slice slA (pe_ix ix_seq (pv 6) pe_int (fun _ _ => rfl)) (po_some pe_int) po_none) pa_nil))))) pa_nil)) (pe_tup (pa_cons pe_str (pa_cons pe_str pa_nil))) (nomark _))
  (pss_one (ps_ret pe_bl))
  pss_nil))))))
  pss_nil)
  (pss_cons (ps_set (i := 10) sc_law.nd rfl (by first | exact Or.inl rfl | exact Or.inr rfl) (pe_lst (pa_cons (pv 2) (pa_cons (pe_callTy callList (by rfl) T.n_list bt_list (pa_cons (pe_ix ix_seq (pv 4) pe_int (fun _ _ => rfl)) pa_nil)) (pa_cons (pe_lc rfl sc_law.nd (own := [("_law_table", 8)]) (pi_list (pe_ix ix_seq (pv 4) pe_int (fun _ _ => rfl))) (blkOk_by (by kernel_rfl)) (fun _ _ _ _ _ => (pg_name (i := 8) sc_law.nd rfl (by first | exact Or.inl rfl | exact Or.inr rfl))) (fun _ _ _ _ _ => pts_nil) (fun _ _ _ _ _ => (pe_lc rfl sc_law.nd (own := [("_law_row_here", 9)]) (pi_cast (pi_list (pv 8)) (rfl : _ = iList K _)) (blkOk_by (by kernel_rfl)) (fun _ _ _ _ _ => (pg_name (i := 9) sc_law.nd rfl (by first | exact Or.inl rfl | exact Or.inr rfl))) (fun _ _ _ _ _ => pts_nil) (fun _ _ _ _ _ => (pe_callTy (callListK (K := K) rfl) (by rfl) T.n_list bt_list (pa_cons (pv 9) pa_nil)))))) (pa_cons (pe_callTy callList (by rfl) T.n_list bt_list (pa_cons (pe_ix ix_seq (pv 4) pe_int (fun _ _ => rfl)) pa_nil)) pa_nil))))))
  (pss_cons (ps_set (i := 11) sc_law.nd rfl (by first | exact Or.inl rfl | exact Or.inr rfl) (pcl c__law_told hr (by decide) rfl (pa_cons (pv 10) pa_nil)))
  (pss_cons (ps_if (PW.pt (pw_or (pt_not (pt_val (pe_callB call_isi (by rfl) T.n_isinstance bt_isinstance (pa_cons (pv 11) (pa_cons (pe_glob (v := .ref a_Machine) rfl T.m_Machine rfl) pa_nil))))) (pw_or1 (pt_cmpR (op_neD hr.units) (pv 10) (pv 4) (nomark _)))))
  (pss_one (ps_ret pe_bl))
  pss_nil)
  (pss_cons (ps_for PassesOwn.never rfl (pi_list (pe_ix ix_seq (pv 10) pe_int (fun _ _ => rfl))) (pg_name (i := 8) sc_law.nd rfl (by first | exact Or.inl rfl | exact Or.inr rfl))
  (pss_cons (ps_for PassesOwn.never rfl (pi_list (pv 8)) (pg_name (i := 9) sc_law.nd rfl (by first | exact Or.inl rfl | exact Or.inr rfl))
  (pss_one (ps_expr (pe_bm0 PySem.F.plainAttrs_list PySem.F.slot_list_clear PySem.F.type_list_clear mt_clear (pv 9)))))
  (pss_one (ps_expr (pe_bm PySem.F.plainAttrs_list PySem.F.slot_list_append PySem.F.type_list_append mt_append (pv 8) (pa_cons pe_int pa_nil))))))
  (pss_cons (ps_expr (pe_bm PySem.F.plainAttrs_list PySem.F.slot_list_append PySem.F.type_list_append mt_append (pe_ix ix_seq (pv 10) pe_int (fun _ _ => rfl)) (pa_cons (pe_tup (pa_cons pe_int (pa_cons pe_int pa_nil))) pa_nil)))
  (pss_cons (ps_expr (pe_bm0 PySem.F.plainAttrs_list PySem.F.slot_list_clear PySem.F.type_list_clear mt_clear (pe_ix ix_seq (pv 10) pe_int (fun _ _ => rfl))))
  (pss_cons (ps_expr (pe_bm0 PySem.F.plainAttrs_list PySem.F.slot_list_clear PySem.F.type_list_clear mt_clear (pe_ix ix_seq (pv 10) pe_int (fun _ _ => rfl))))
  (pss_cons (ps_if (PW.pt (pw_or (pt_cmpR (op_neD hr.units) (pe_lst (pa_cons (pe_fld (pv 11) rfl) (pa_cons (pe_fld (pv 11) rfl) (pa_cons (pe_fld (pv 11) rfl) (pa_cons (pe_fld (pv 11) rfl) pa_nil))))) (pv 4) (nomark _)) (pw_or1 (pt_cmpR (op_neD hr.units) (pcl c_rooms hr (by decide) rfl (pa_cons (pv 11) pa_nil)) (pv 3) (nomark _)))))
  (pss_one (ps_ret pe_bl))
  pss_nil)
  (pss_cons (ps_set (i := 7) sc_law.nd rfl (by first | exact Or.inl rfl | exact Or.inr rfl) (pe_tup (pa_cons (pclX c_weight hr (by decide) rfl (pa_cons (pv 11) (pa_cons (pv 2) pa_nil))) (pa_cons (pclX c_row_of hr (by decide) rfl (pa_cons (pv 11) (pa_cons (pv 2) pa_nil))) pa_nil))))
  (pss_cons (ps_if (pt_not (pt_val (pcl c__law_words_refused hr (by decide) rfl (pa_cons (pv 11) (pa_cons (pv 2) (pa_cons (pe_op opFd (pv 5) pe_int) pa_nil))))))
  (pss_one (ps_ret pe_bl))
  pss_nil)
  (pss_one (ps_ret (pe_cmpR (op_eqD hr.units) (pe_tup (pa_cons (pclX c_weight hr (by decide) rfl (pa_cons (pv 11) (pa_cons (pv 2) pa_nil))) (pa_cons (pclX c_row_of hr (by decide) rfl (pa_cons (pv 11) (pa_cons (pv 2) pa_nil))) pa_nil))) (pv 7) (nomark _))))))))))))))))))))), fun ns hl hb => ?_⟩
  have cb : Cb ns := ⟨hl, hb⟩
  let c := cellAt ns 0
  let L := sgL c
  have hL : SgOk (word L) := sgL_ok c
  have len2 : L.length ≤ 2 := by show (sgL c).length ≤ 2; rw [sgL_len]; exact sgN_le c
  have wl : (word L).length ≤ 100000 := by rw [word_len]; omega
  obtain ⟨s0, s1, s2, hs, z0, z1, z2⟩ := scl_ok (cellAt ns 1)
  let n : Nat := (c / 7 % 4).toNat
  have ne : c / 7 % 4 = (n : Int) := by show _ = ((c / 7 % 4).toNat : Int); omega
  have n3 : n ≤ 3 := by omega
  let tb := tB ns 3 n
  let te := tE ns 3 n
  let tm := tMs ns 3 L.length n
  have Mzz : Mz n tb te tm s0 s1 s2 := mz_of (c := 0) (by omega) (by omega) z0 z1 z2
  have tml : tm.length = L.length := by show (tMs ns 3 L.length n).length = _; simp [tMs]
  let b := rwS s0 tb
  let m := tm.map fun U => U.map (rwS s1)
  let e := rwS s2 te
  have G : GoodM (word L) b m e := goodM_of hL Mzz tml
  have bl : b.length = n := by show (rwS s0 tb).length = n; rw [← Mzz.bl]; exact List.length_map _
  let q := cellAt ns 2
  let PT : D := .lst (mcA (word L) b m e)
  let me : D := .ins a_Machine (mcF (word L) b m e)
  have cell : ∀ {Γ : Gam} (k : Nat), Γ[0]? = some (.fz (.scr ns)) → Ed K (tCall (spR K Sca) [] E0 (tCons (tVar 0) (tCons (tC (.int k)) tNil))) Γ (.int (cellAt ns k)) := fun {Γ} k h => ed_call (ea_cons (ed_fz 0 h) (ea_cons (ed_int k) ea_nil)) ⟨ns, k, rfl, rfl⟩
  let Γ0 : Sl → Sl → Sl → Sl → Sl → Sl → Sl → Sl → Gam := fun sg ma pa sp wi to ha mc => [.fz (.scr ns), .fz (.int c), sg, ma, pa, sp, wi, to, .no, .no, ha, mc]
  refine sd_seq (Γ1 := Γ0 .no .no .no .no .no .no .no .no) (sd_set 1 (cell 0 rfl)) ?_
  refine sd_seq (Γ1 := Γ0 (.fz (.str (word L))) .no .no .no .no .no .no .no) (sd_set 2 (ed_call (ea_cons (ed_fz 1 rfl) ea_nil) ⟨c, rfl, rfl⟩)) ?_
  refine sd_seq (Γ1 := Γ0 (.fz (.str (word L))) (.fz (.int (n : Nat))) .no .no .no .no .no .no) (sd_set 3 (ed_is (ed_op (ed_op (ed_fz 1 rfl) (ed_int 7) (r2_fdP (by decide))) (ed_int 4) (r2_mod (by decide))) (congrArg D.int ne))) ?_
  refine sd_seq (Γ1 := Γ0 (.fz (.str (word L))) (.fz (.int (n : Nat))) (.fz PT) .no .no .no .no .no) (sd_set 4 (ed_call (ea_cons (ed_fz 2 rfl) (ea_cons (ed_call (ea_cons (ed_fz 0 rfl) (ea_cons (ed_int 3) (ea_cons (ed_fz 2 rfl) (ea_cons (ed_fz 3 rfl) ea_nil)))) ⟨ns, 3, n, word L, rfl, cb, by decide, by omega, by rw [word_len]; omega, by rw [word_len]⟩) (ea_cons (ed_call (ea_cons (cell 1 rfl) ea_nil) ⟨_, rfl, by rw [hs]⟩) ea_nil))) ⟨L, n, tb, te, tm, s0, s1, s2, rfl, Mzz, rfl⟩)) ?_
  let Γ1 : Sl → Sl → Sl → Sl → Gam := fun wi to ha mc => Γ0 (.fz (.str (word L))) (.fz (.int (n : Nat))) (.fz PT) (.fz (.int q)) wi to ha mc
  refine sd_seq (Γ1 := Γ1 .no .no .no .no) (sd_set 5 (cell 2 rfl)) ?_
  -- spoilt
  refine sd_seq (Γ1 := Γ1 .no .no .no .no) (sd_ifF (et_is (et_and (et_test (ed_op (ed_op (ed_fz 5 rfl) (ed_int 3) (r2_mod (by decide))) (ed_int 1) r2_eqI)) fun _ => et_is (et_test (ed_op (ed_callL (d := refMa) (ea_cons (ed_call (ea_cons (ed_fz 4 rfl) (ea_cons (ed_op (ed_fz 5 rfl) (ed_int 3) (r2_fdP (by decide))) ea_nil)) ⟨L, b, m, e, q / 3, rfl, G, rfl⟩) ea_nil) ?_) (ed_tup (ea_cons (ed_str _) (ea_cons (ed_str _) ea_nil))) (r2_ne pl_refMa pl_refMa))) nMa) (Bool.and_false _)) sd_next) ?_
  · obtain ⟨s', b', m', e', eq, M4', bad⟩ := spo_bad G (q / 3)
    exact .inr ⟨s', b', m', e', by rw [eq], M4', .inl ⟨bad, rfl⟩⟩
  -- wide
  refine sd_seq (Γ1 := Γ1 .no .no .no .no) ?_ ?_
  · have t7 : Et K (tTest (tOp (rEqD K) (tOp (rI (fun _ j => 0 < j) fun i j => .int (i % j)) (tVar 5) (tC (.int 7))) (tC (.int 3)))) (Γ1 .no .no .no .no) (decide (q % 7 = 3)) := et_test (ed_op (ed_op (ed_fz 5 rfl) (ed_int 7) (r2_mod (by decide))) (ed_int 3) r2_eqI)
    by_cases h7 : q % 7 = 3
    · refine sd_ifT (et_is t7 (decide_eq_true h7)) ?_
      let l := L.take 1
      have hl1 : SgOk (word l) := by
        obtain ⟨_, a2, a3⟩ := hL
        rw [word_list] at a2 a3
        refine ⟨?_, ?_, fun x hx => ?_⟩
        · rw [word_len, List.length_take]; omega
        · rw [word_list]; exact a2.sublist (List.take_sublist 1 L)
        · rw [word_list] at hx; exact a3 x (List.mem_of_mem_take hx)
      have m2 : ∀ {Γ : Gam} (j : Int), Γ[5]? = some (.fz (.int q)) → Et K (tTest (tOp (rEqD K) (tOp (rI (fun _ j => 0 < j) fun i j => .int (i % j)) (tOp rFdA (tVar 5) (tC (.int 7))) (tC (.int 2))) (tC (.int j)))) Γ (decide (q / 7 % 2 = j)) := fun j h => et_test (ed_op (ed_op (ed_op (ed_fz 5 h) (ed_int 7) (r2_fdP (by decide))) (ed_int 2) (r2_mod (by decide))) (ed_int j) r2_eqI)
      obtain ⟨N, td, hN, N1, N13, hst, ta, tb'⟩ : ∃ (N : Nat) (td : D), 12 + q / 7 % 2 = (N : Int) ∧ 1 ≤ N ∧ N ≤ 13 ∧ StoG a_Machine [wideD l N] td ∧
          Et K (tAnd (tTest (tOp (rEqD K) (tOp (rI (fun _ j => 0 < j) fun i j => .int (i % j)) (tOp rFdA (tVar 5) (tC (.int 7))) (tC (.int 2))) (tC (.int 1)))) (tTest (tOp (rNeD K) (tVar 7) (tTup (tCons (tC (.str "refused")) (tCons (tC (.str "many")) tNil)))))) (Γ1 (.fz (wideD l N)) (.fz td) .no .no) false ∧
          Et K (tAnd (tTest (tOp (rEqD K) (tOp (rI (fun _ j => 0 < j) fun i j => .int (i % j)) (tOp rFdA (tVar 5) (tC (.int 7))) (tC (.int 2))) (tC (.int 0)))) (tOr (tNot (L2.tB (tCB (rIsi K) (tCons (tVar 7) (tCons (tC (.ref a_Machine)) tNil))))) (tTest (tOp (rNeD K) (tCall (spR K (Srm a_Machine)) [] E0 (tCons (tVar 7) tNil)) (tC (.int 12)))))) (Γ1 (.fz (wideD l N)) (.fz td) .no .no) false := by
        by_cases hk : q / 7 % 2 = 1
        · have W := wide_good (n := 13) hl1 (by decide)
          refine ⟨13, refTo, by omega, by decide, by decide, .inr ⟨_, _, _, _, rfl, W.m4, .inr ⟨W.good, by rw [lenD_sh]; decide, rfl⟩⟩, ?_, et_andF (et_is (m2 0 rfl) (decide_eq_false (by omega)))⟩
          exact et_is (et_and (m2 1 rfl) fun _ => et_is (et_test (ed_op (ed_fz 7 rfl) (ed_tup (ea_cons (ed_str _) (ea_cons (ed_str _) ea_nil))) (r2_ne pl_refTo pl_refTo))) nTo) (Bool.and_false _)
        · have W := wide_good (n := 12) hl1 (by decide)
          have W2 : GoodM (word l) (ones 12) (onesT l 12) (ones 12) := ⟨W.sg, by decide, W.gb, W.ml, W.gm, W.ge⟩
          refine ⟨12, .ins a_Machine (mcF (word l) (ones 12) (onesT l 12) (ones 12)), by omega, by decide, by decide, .inl ⟨_, _, _, _, rfl, W2, rfl⟩, et_andF (et_is (m2 1 rfl) (decide_eq_false hk)), ?_⟩
          exact et_is (et_and (m2 0 rfl) fun _ => et_orF (et_nF (et_B (ed_cb (ea_cons (ed_fz 7 rfl) (ea_cons (ed_adr _) ea_nil)) (rc_isO T.ti_Machine)))) (et_is (et_test (ed_op (ed_call (ea_cons (ed_fz 7 rfl) ea_nil) ⟨_, _, _, _, rfl, rfl⟩) (ed_int 12) r2_neI)) (by decide))) (Bool.and_false _)
      refine Sd.nxLe (Γ1 := Γ1 (.fz (wideD l N)) (.fz td) .no .no) ?_ (.cons (.inr rfl) (.cons (.inr rfl) (.cons (.inr rfl) (.cons (.inr rfl) (.cons (.inr rfl) (.cons (.inr rfl) (.cons (.inl rfl) (.cons (.inl rfl) (.cons (.inl rfl) (.cons (.inl rfl) (.cons (.inl rfl) (.cons (.inl rfl) .nil))))))))))))
      refine sd_seq (Γ1 := Γ1 (.fz (wideD l N)) .no .no .no) (sd_set 6 (ed_call (ea_cons (ed_is (ed_op (ed_int 12) (ed_op (ed_op (ed_fz 5 rfl) (ed_int 7) (r2_fdP (by decide))) (ed_int 2) (r2_mod (by decide))) r2_addI) (congrArg D.int hN)) (ea_cons (ed_is (ed_sl (ed_fz 2 rfl) eo_none (eo_some (ed_int 1)) (rs_str wl)) (congrArg D.str (wcut_to L 1))) ea_nil)) ⟨l, N, rfl, by omega, by show (L.take 1).length ≤ 10; rw [List.length_take]; omega, rfl⟩)) ?_
      refine sd_seq (Γ1 := Γ1 (.fz (wideD l N)) (.fz td) .no .no) (sd_set 7 (ed_callL (ea_cons (ed_fz 6 rfl) ea_nil) hst)) ?_
      refine sd_seq (sd_ifF ta sd_next) ?_
      refine sd_seq (sd_ifF tb' sd_next) ?_
      refine sd_ifF (et_is (et_test (ed_op (ed_callL (d := refMa) (ea_cons (ed_lst (ea_cons (ed_op (ed_fz 6 rfl) (ed_int 0) (r2_ixL rfl)) (ea_cons (ed_op (ed_fz 6 rfl) (ed_int 1) (r2_ixL rfl)) (ea_cons (ed_op (ed_fz 6 rfl) (ed_int 2) (r2_ixL rfl)) (ea_cons (ed_is (ed_sl (ed_op (ed_fz 6 rfl) (ed_int 3) (r2_ixL rfl)) (eo_some (ed_int 1)) eo_none rs_lst) (congrArg D.lst (cutD_from ((ones N).map sh) 1))) ea_nil))))) ea_nil) ?_) (ed_tup (ea_cons (ed_str _) (ea_cons (ed_str _) ea_nil))) (r2_ne pl_refMa pl_refMa))) nMa) sd_next
      have W := wide_good (n := N) hl1 (by omega)
      obtain ⟨_, ks, kb, km, ke⟩ := W.m4
      refine .inr ⟨_, _, _, _, rfl, ⟨rfl, ks, kb, km, rowK_lst ?_ (all_drop pt_mem)⟩, .inl ⟨g4_e ?_, rfl⟩⟩
      · rw [List.length_drop, List.length_map]
        show (List.replicate N ((1 : Int), (1 : Int))).length - 1 ≤ _
        rw [List.length_replicate]; omega
      · rw [lenD_sh]
        refine isRow_len ?_
        rw [List.length_drop, List.length_map]
        show (List.replicate N ((1 : Int), (1 : Int))).length - 1 ≠ (List.replicate N ((1 : Int), (1 : Int))).length
        rw [List.length_replicate]; omega
    · exact sd_ifF (et_is t7 (decide_eq_false h7)) sd_next
  -- handed in, then changed
  have few := G.few
  have mm6 : m.length ≤ 6 := by have := G.ml; have := G.sg.1; omega
  have ez : hTm (word L) b m e = Tr.nd [.lf (.str (word L)), .nd ((b.map sh).map .lf), .nd (m.map fun U => .nd (U.map fun r => .nd ((r.map sh).map .lf))), .nd ((e.map sh).map .lf)] := by
    unfold hTm hT
    simp only [List.map_map, Function.comp_def]
  have isM : ∀ {Γ : Gam}, Γ[11]? = some (.fz me) → Et K (tNot (L2.tB (tCB (rIsi K) (tCons (tVar 11) (tCons (tC (.ref a_Machine)) tNil))))) Γ false := fun h => et_nF (et_B (ed_cb (ea_cons (ed_fz 11 h) (ea_cons (ed_adr _) ea_nil)) (rc_isO T.ti_Machine)))
  refine sd_scratch (x := word L) (bs := b.map sh) (Us := m.map fun U => U.map fun r => r.map sh) (es := e.map sh) (hi := 10) (mi := 11) (ti := 8) (ri := 9) (dm := me) (SN := StoN a_Machine) ?_ ?_ (Nat.le_of_ble_eq_true rfl) ⟨word L, b, m, e, by rw [show (hT _ _ _ _).toD = _ from hTm_D (word L) b m e], G, rfl⟩ (by decide) ?_ rfl rfl (by decide) (by decide) (by decide) ?_ ?_ ?_
  · show Wt K _ _ (hTm (word L) b m e)
    rw [ez]
    exact wt_lst (wa_cons (wt_lf (ed_fz 2 rfl)) (wa_cons (wt_ow (ew_listL (ed_op (ed_fz 4 rfl) (ed_int 1) (r2_ixL rfl)))) (wa_cons (wt_map m tabL (fun U => .nd (U.map fun r => .nd ((r.map sh).map .lf))) (ei_list (ed_op (ed_fz 4 rfl) (ed_int 2) (r2_ixL rfl))) (by omega) fun U hU => ⟨[8], _, eg_name 8, by simp, wt_map U shL (fun r => .nd ((r.map sh).map .lf)) (ei_list (ed_fz 8 rfl)) (by rw [(G.gm U hU).1]; omega) fun r hr => ⟨[9], _, eg_name 9, by simp, wt_ow (ew_listL (ed_fz 9 rfl))⟩⟩) (wa_cons (wt_ow (ew_listL (ed_op (ed_fz 4 rfl) (ed_int 3) (r2_ixL rfl)))) wa_nil))))
  · intro i o h
    match i, h with
    | 0, h => cases h
    | 1, h => cases h
    | 2, h => cases h
    | 3, h => cases h
    | 4, h => cases h
    | 5, h => cases h
    | 6, h => cases h
    | 7, h => cases h
    | 8, h => cases h
    | 9, h => cases h
    | 10, h => cases h
    | 11, h => cases h
    | _ + 12, h => cases h
  · refine et_orF (isM rfl) (et_is (et_test (ed_op (ed_is (ed_fz 10 rfl) (hTm_D (word L) b m e)) (ed_fz 4 rfl) (r2_ne (pl_mcA hL) (pl_mcA hL)))) (nP hL))
  · intro U hU
    obtain ⟨V, hV, rfl⟩ := List.mem_map.mp hU
    rw [List.length_map, (G.gm V hV).1]
    omega
  · rw [List.length_map]; omega
  · show Sd K E0 _ (Γ1 .no .no .no (.fz me)) _
    have fl : ∀ {Γ : Gam} {x : String} {d : D}, Γ[11]? = some (.fz me) → NoAttr K a_Machine x → (mcF (word L) b m e).lookup (x : Str) = some d → Ed K (tFld K (tVar 11) x) Γ d := fun h na hd => ed_fld (ed_fz 11 h) T.cl_Machine na hd
    refine sd_seq (Γ1 := Γ1 .no .no .no (.fz me)) (sd_ifF (et_orF (et_is (et_test (ed_op (ed_lst (ea_cons (ed_fld (ed_fz 11 rfl) T.cl_Machine T.na_Machine_signs rfl) (ea_cons (ed_fld (ed_fz 11 rfl) T.cl_Machine T.na_Machine_begins rfl) (ea_cons (ed_fld (ed_fz 11 rfl) T.cl_Machine T.na_Machine_moves rfl) (ea_cons (ed_fld (ed_fz 11 rfl) T.cl_Machine T.na_Machine_ends rfl) ea_nil))))) (ed_fz 4 rfl) (r2_ne (pl_mcA hL) (pl_mcA hL)))) (nP hL)) (et_is (et_test (ed_op (ed_call (ea_cons (ed_fz 11 rfl) ea_nil) ⟨_, _, _, _, rfl, rfl⟩) (ed_fz 3 rfl) r2_neI)) (by rw [bl, decide_eq_true rfl]; rfl))) sd_next) ?_
    have rl : txt L (List.range L.length) = word L := by
      unfold txt
      congr 1
      refine List.ext_getElem (by simp) fun i h1 h2 => ?_
      rw [List.getElem_map, List.getElem_range, getD_at h2]
    have Wd0 : Wd a_Machine [.ins a_Machine (mcI (word L) tb te tm s0 s1 s2), .str (txt L (List.range L.length))] L tb te tm s0 s1 s2 14 n (List.range L.length) := ⟨rfl, by have := hL.2.1; rw [word_list] at this; exact this, tml.symm, Mzz.mq, fun i hi => by rw [tml]; exact List.mem_range.mp hi, by rw [List.length_range]; omega⟩
    rw [rl] at Wd0
    let we : Int × Int := mkS (dot (rowW tb tm (List.range L.length)) te) (s0 * s1 ^ (List.range L.length).length * s2)
    let ro : List (Int × Int) := rwS (s0 * s1 ^ (List.range L.length).length) (rowW tb tm (List.range L.length))
    have two : ∀ {Γ : Gam}, Γ[11]? = some (.fz me) → Γ[2]? = some (.fz (.str (word L))) → Ed K (tTup (tCons (tCall (spX K (Swt a_Machine) (Tro a_Machine a_NoWord)) [] E0 (tCons (tVar 11) (tCons (tVar 2) tNil))) (tCons (tCall (spXW K (Sro a_Machine) (Tro a_Machine a_NoWord)) [] E0 (tCons (tVar 11) (tCons (tVar 2) tNil))) tNil))) Γ (.tup [sh we, shL ro]) := fun h h2 =>
      ed_tup (ea_cons (ed_callX (ea_cons (ed_fz 11 h) (ea_cons (ed_fz 2 h2) ea_nil)) ⟨L, tb, te, tm, s0, s1, s2, 14, n, _, Wd0, rfl⟩) (ea_cons (ed_ow (ew_callX (ea_cons (ed_fz 11 h) (ea_cons (ed_fz 2 h2) ea_nil)) ⟨L, tb, te, tm, s0, s1, s2, 14, n, _, Wd0, rfl⟩)) ea_nil))
    have plT : Pl 3 (.tup [sh we, shL ro]) := .tup fun d hd => by
      simp only [List.mem_cons, List.not_mem_nil, or_false] at hd
      rcases hd with rfl | rfl
      · exact (pl_sh we).mono (by decide)
      · exact pl_shL ro
    refine sd_seq (Γ1 := Γ1 .no (.fz (.tup [sh we, shL ro])) .no (.fz me)) (sd_set 7 (two rfl rfl)) ?_
    refine sd_seq (Γ1 := Γ1 .no (.fz (.tup [sh we, shL ro])) .no (.fz me)) (sd_ifF (et_nF (et_B (ed_call (ea_cons (ed_fz 11 rfl) (ea_cons (ed_fz 2 rfl) (ea_cons (ed_op (ed_fz 5 rfl) (ed_int 3) (r2_fdP (by decide))) ea_nil))) ⟨L, b, m, e, q / 3, rfl, by omega, fun x hx => by have := hL.2.2; rw [word_list] at this; exact this x hx, rfl⟩))) sd_next) ?_
    exact sd_ret (ed_is (ed_op (two rfl rfl) (ed_fz 7 rfl) (r2_eq plT plT)) (congrArg D.bl (eqD_refl plT)))

end

theorem all_mk {l : PySem.W.OpenLaw} {w : World} {K : PySem.W.Frag} {h : Heap} {mg : Str → Option Value} {fa : Addr} (X : K.In h) (G : h.Ns mainGlobals mg) (hfa : mg "law" = some (.ref fa))
    {a_WeighError a_Nought a_NoText a_NoRow a_NoMachine a_NoWord a_OtherSigns a_TooMany a_Machine a_NONE : Addr}
    {fa_is_whole : Addr} {od_is_whole an_is_whole : Option Addr} {sl_is_whole : Array (Option Value)} {oc_is_whole kV_is_whole dc_is_whole pm_is_whole cd_is_whole ct_is_whole : Value}
    {fa_divisor : Addr} {od_divisor an_divisor : Option Addr} {sl_divisor : Array (Option Value)} {oc_divisor kV_divisor dc_divisor pm_divisor cd_divisor ct_divisor : Value}
    {fa_is_share : Addr} {od_is_share an_is_share : Option Addr} {sl_is_share : Array (Option Value)} {oc_is_share kV_is_share dc_is_share pm_is_share cd_is_share ct_is_share : Value}
    {fa_share : Addr} {od_share an_share : Option Addr} {sl_share : Array (Option Value)} {oc_share kV_share dc_share pm_share cd_share ct_share : Value}
    {fa_plus : Addr} {od_plus an_plus : Option Addr} {sl_plus : Array (Option Value)} {oc_plus kV_plus dc_plus pm_plus cd_plus ct_plus : Value}
    {fa_times : Addr} {od_times an_times : Option Addr} {sl_times : Array (Option Value)} {oc_times kV_times dc_times pm_times cd_times ct_times : Value}
    {fa_weighed : Addr} {od_weighed an_weighed : Option Addr} {sl_weighed : Array (Option Value)} {oc_weighed kV_weighed dc_weighed pm_weighed cd_weighed ct_weighed : Value}
    {fa_is_row : Addr} {od_is_row an_is_row : Option Addr} {sl_is_row : Array (Option Value)} {oc_is_row kV_is_row dc_is_row pm_is_row cd_is_row ct_is_row : Value}
    {fa_are_signs : Addr} {od_are_signs an_are_signs : Option Addr} {sl_are_signs : Array (Option Value)} {oc_are_signs kV_are_signs dc_are_signs pm_are_signs cd_are_signs ct_are_signs : Value}
    {fa_is_table : Addr} {od_is_table an_is_table : Option Addr} {sl_is_table : Array (Option Value)} {oc_is_table kV_is_table dc_is_table pm_is_table cd_is_table ct_is_table : Value}
    {fa_need_machine : Addr} {od_need_machine an_need_machine : Option Addr} {sl_need_machine : Array (Option Value)} {oc_need_machine kV_need_machine dc_need_machine pm_need_machine cd_need_machine ct_need_machine : Value}
    {fa_MachineD_initD : Addr} {od_MachineD_initD an_MachineD_initD : Option Addr} {sl_MachineD_initD : Array (Option Value)} {oc_MachineD_initD kV_MachineD_initD dc_MachineD_initD pm_MachineD_initD cd_MachineD_initD ct_MachineD_initD : Value}
    {fa_rooms : Addr} {od_rooms an_rooms : Option Addr} {sl_rooms : Array (Option Value)} {oc_rooms kV_rooms dc_rooms pm_rooms cd_rooms ct_rooms : Value}
    {fa_led : Addr} {od_led an_led : Option Addr} {sl_led : Array (Option Value)} {oc_led kV_led dc_led pm_led cd_led ct_led : Value}
    {fa_row_of : Addr} {od_row_of an_row_of : Option Addr} {sl_row_of : Array (Option Value)} {oc_row_of kV_row_of dc_row_of pm_row_of cd_row_of ct_row_of : Value}
    {fa_weight : Addr} {od_weight an_weight : Option Addr} {sl_weight : Array (Option Value)} {oc_weight kV_weight dc_weight pm_weight cd_weight ct_weight : Value}
    {fa_law_cell_at : Addr} {od_law_cell_at an_law_cell_at : Option Addr} {sl_law_cell_at : Array (Option Value)} {oc_law_cell_at kV_law_cell_at dc_law_cell_at pm_law_cell_at cd_law_cell_at ct_law_cell_at : Value}
    {fa_law_common : Addr} {od_law_common an_law_common : Option Addr} {sl_law_common : Array (Option Value)} {oc_law_common kV_law_common dc_law_common pm_law_common cd_law_common ct_law_common : Value}
    {fa_law_share : Addr} {od_law_share an_law_share : Option Addr} {sl_law_share : Array (Option Value)} {oc_law_share kV_law_share dc_law_share pm_law_share cd_law_share ct_law_share : Value}
    {fa_law_word_of : Addr} {od_law_word_of an_law_word_of : Option Addr} {sl_law_word_of : Array (Option Value)} {oc_law_word_of kV_law_word_of dc_law_word_of pm_law_word_of cd_law_word_of ct_law_word_of : Value}
    {fa_law_drawn : Addr} {od_law_drawn an_law_drawn : Option Addr} {sl_law_drawn : Array (Option Value)} {oc_law_drawn kV_law_drawn dc_law_drawn pm_law_drawn cd_law_drawn ct_law_drawn : Value}
    {fa_law_top : Addr} {od_law_top an_law_top : Option Addr} {sl_law_top : Array (Option Value)} {oc_law_top kV_law_top dc_law_top pm_law_top cd_law_top ct_law_top : Value}
    {fa_law_scales : Addr} {od_law_scales an_law_scales : Option Addr} {sl_law_scales : Array (Option Value)} {oc_law_scales kV_law_scales dc_law_scales pm_law_scales cd_law_scales ct_law_scales : Value}
    {fa_law_signs : Addr} {od_law_signs an_law_signs : Option Addr} {sl_law_signs : Array (Option Value)} {oc_law_signs kV_law_signs dc_law_signs pm_law_signs cd_law_signs ct_law_signs : Value}
    {fa_law_tops : Addr} {od_law_tops an_law_tops : Option Addr} {sl_law_tops : Array (Option Value)} {oc_law_tops kV_law_tops dc_law_tops pm_law_tops cd_law_tops ct_law_tops : Value}
    {fa_law_row : Addr} {od_law_row an_law_row : Option Addr} {sl_law_row : Array (Option Value)} {oc_law_row kV_law_row dc_law_row pm_law_row cd_law_row ct_law_row : Value}
    {fa_law_parts : Addr} {od_law_parts an_law_parts : Option Addr} {sl_law_parts : Array (Option Value)} {oc_law_parts kV_law_parts dc_law_parts pm_law_parts cd_law_parts ct_law_parts : Value}
    {fa_law_no_signs : Addr} {od_law_no_signs an_law_no_signs : Option Addr} {sl_law_no_signs : Array (Option Value)} {oc_law_no_signs kV_law_no_signs dc_law_no_signs pm_law_no_signs cd_law_no_signs ct_law_no_signs : Value}
    {fa_law_no_row : Addr} {od_law_no_row an_law_no_row : Option Addr} {sl_law_no_row : Array (Option Value)} {oc_law_no_row kV_law_no_row dc_law_no_row pm_law_no_row cd_law_no_row ct_law_no_row : Value}
    {fa_law_spoilt : Addr} {od_law_spoilt an_law_spoilt : Option Addr} {sl_law_spoilt : Array (Option Value)} {oc_law_spoilt kV_law_spoilt dc_law_spoilt pm_law_spoilt cd_law_spoilt ct_law_spoilt : Value}
    {fa_law_told : Addr} {od_law_told an_law_told : Option Addr} {sl_law_told : Array (Option Value)} {oc_law_told kV_law_told dc_law_told pm_law_told cd_law_told ct_law_told : Value}
    {fa_law_wide : Addr} {od_law_wide an_law_wide : Option Addr} {sl_law_wide : Array (Option Value)} {oc_law_wide kV_law_wide dc_law_wide pm_law_wide cd_law_wide ct_law_wide : Value}
    {fa_law_word_refused : Addr} {od_law_word_refused an_law_word_refused : Option Addr} {sl_law_word_refused : Array (Option Value)} {oc_law_word_refused kV_law_word_refused dc_law_word_refused pm_law_word_refused cd_law_word_refused ct_law_word_refused : Value}
    {fa_law_words_refused : Addr} {od_law_words_refused an_law_words_refused : Option Addr} {sl_law_words_refused : Array (Option Value)} {oc_law_words_refused kV_law_words_refused dc_law_words_refused pm_law_words_refused cd_law_words_refused ct_law_words_refused : Value}
    {fa_law : Addr} {od_law an_law : Option Addr} {sl_law : Array (Option Value)} {oc_law kV_law dc_law pm_law cd_law ct_law : Value}
    {od_NONE : Option Addr} {tk_NONE tl_NONE : Tok} {n_NONE : Nat} {sl_NONE : Array (Option Value)}
    {tk_MOST_SIGNS : Tok}
    {tk_MOST_ROOMS : Tok}
    (h1_is_whole : PySem.W.nsIn K mainGlobals "is_whole" = some (some (.ref fa_is_whole)))
    (h2_is_whole : K.lookup fa_is_whole = some ⟨oc_is_whole, od_is_whole, .func (PySem.W.fnOf "is_whole" "is_whole" (defArgs s_is_whole) (defBody s_is_whole) (defScope s_is_whole) .none kV_is_whole dc_is_whole pm_is_whole an_is_whole cd_is_whole ct_is_whole), sl_is_whole⟩)
    (h3_is_whole : PySem.W.codeIn K cd_is_whole "is_whole" = true)
    (h4_is_whole : PySem.W.keepIn K (.ref fa_is_whole) = true)
    (h1_divisor : PySem.W.nsIn K mainGlobals "divisor" = some (some (.ref fa_divisor)))
    (h2_divisor : K.lookup fa_divisor = some ⟨oc_divisor, od_divisor, .func (PySem.W.fnOf "divisor" "divisor" (defArgs s_divisor) (defBody s_divisor) (defScope s_divisor) .none kV_divisor dc_divisor pm_divisor an_divisor cd_divisor ct_divisor), sl_divisor⟩)
    (h3_divisor : PySem.W.codeIn K cd_divisor "divisor" = true)
    (h4_divisor : PySem.W.keepIn K (.ref fa_divisor) = true)
    (h1_is_share : PySem.W.nsIn K mainGlobals "is_share" = some (some (.ref fa_is_share)))
    (h2_is_share : K.lookup fa_is_share = some ⟨oc_is_share, od_is_share, .func (PySem.W.fnOf "is_share" "is_share" (defArgs s_is_share) (defBody s_is_share) (defScope s_is_share) .none kV_is_share dc_is_share pm_is_share an_is_share cd_is_share ct_is_share), sl_is_share⟩)
    (h3_is_share : PySem.W.codeIn K cd_is_share "is_share" = true)
    (h4_is_share : PySem.W.keepIn K (.ref fa_is_share) = true)
    (h1_share : PySem.W.nsIn K mainGlobals "share" = some (some (.ref fa_share)))
    (h2_share : K.lookup fa_share = some ⟨oc_share, od_share, .func (PySem.W.fnOf "share" "share" (defArgs s_share) (defBody s_share) (defScope s_share) .none kV_share dc_share pm_share an_share cd_share ct_share), sl_share⟩)
    (h3_share : PySem.W.codeIn K cd_share "share" = true)
    (h4_share : PySem.W.keepIn K (.ref fa_share) = true)
    (h1_plus : PySem.W.nsIn K mainGlobals "plus" = some (some (.ref fa_plus)))
    (h2_plus : K.lookup fa_plus = some ⟨oc_plus, od_plus, .func (PySem.W.fnOf "plus" "plus" (defArgs s_plus) (defBody s_plus) (defScope s_plus) .none kV_plus dc_plus pm_plus an_plus cd_plus ct_plus), sl_plus⟩)
    (h3_plus : PySem.W.codeIn K cd_plus "plus" = true)
    (h4_plus : PySem.W.keepIn K (.ref fa_plus) = true)
    (h1_times : PySem.W.nsIn K mainGlobals "times" = some (some (.ref fa_times)))
    (h2_times : K.lookup fa_times = some ⟨oc_times, od_times, .func (PySem.W.fnOf "times" "times" (defArgs s_times) (defBody s_times) (defScope s_times) .none kV_times dc_times pm_times an_times cd_times ct_times), sl_times⟩)
    (h3_times : PySem.W.codeIn K cd_times "times" = true)
    (h4_times : PySem.W.keepIn K (.ref fa_times) = true)
    (h1_weighed : PySem.W.nsIn K mainGlobals "weighed" = some (some (.ref fa_weighed)))
    (h2_weighed : K.lookup fa_weighed = some ⟨oc_weighed, od_weighed, .func (PySem.W.fnOf "weighed" "weighed" (defArgs s_weighed) (defBody s_weighed) (defScope s_weighed) .none kV_weighed dc_weighed pm_weighed an_weighed cd_weighed ct_weighed), sl_weighed⟩)
    (h3_weighed : PySem.W.codeIn K cd_weighed "weighed" = true)
    (h4_weighed : PySem.W.keepIn K (.ref fa_weighed) = true)
    (h1_is_row : PySem.W.nsIn K mainGlobals "is_row" = some (some (.ref fa_is_row)))
    (h2_is_row : K.lookup fa_is_row = some ⟨oc_is_row, od_is_row, .func (PySem.W.fnOf "is_row" "is_row" (defArgs s_is_row) (defBody s_is_row) (defScope s_is_row) .none kV_is_row dc_is_row pm_is_row an_is_row cd_is_row ct_is_row), sl_is_row⟩)
    (h3_is_row : PySem.W.codeIn K cd_is_row "is_row" = true)
    (h4_is_row : PySem.W.keepIn K (.ref fa_is_row) = true)
    (h1_are_signs : PySem.W.nsIn K mainGlobals "are_signs" = some (some (.ref fa_are_signs)))
    (h2_are_signs : K.lookup fa_are_signs = some ⟨oc_are_signs, od_are_signs, .func (PySem.W.fnOf "are_signs" "are_signs" (defArgs s_are_signs) (defBody s_are_signs) (defScope s_are_signs) .none kV_are_signs dc_are_signs pm_are_signs an_are_signs cd_are_signs ct_are_signs), sl_are_signs⟩)
    (h3_are_signs : PySem.W.codeIn K cd_are_signs "are_signs" = true)
    (h4_are_signs : PySem.W.keepIn K (.ref fa_are_signs) = true)
    (h1_is_table : PySem.W.nsIn K mainGlobals "is_table" = some (some (.ref fa_is_table)))
    (h2_is_table : K.lookup fa_is_table = some ⟨oc_is_table, od_is_table, .func (PySem.W.fnOf "is_table" "is_table" (defArgs s_is_table) (defBody s_is_table) (defScope s_is_table) .none kV_is_table dc_is_table pm_is_table an_is_table cd_is_table ct_is_table), sl_is_table⟩)
    (h3_is_table : PySem.W.codeIn K cd_is_table "is_table" = true)
    (h4_is_table : PySem.W.keepIn K (.ref fa_is_table) = true)
    (h1_need_machine : PySem.W.nsIn K mainGlobals "need_machine" = some (some (.ref fa_need_machine)))
    (h2_need_machine : K.lookup fa_need_machine = some ⟨oc_need_machine, od_need_machine, .func (PySem.W.fnOf "need_machine" "need_machine" (defArgs s_need_machine) (defBody s_need_machine) (defScope s_need_machine) .none kV_need_machine dc_need_machine pm_need_machine an_need_machine cd_need_machine ct_need_machine), sl_need_machine⟩)
    (h3_need_machine : PySem.W.codeIn K cd_need_machine "need_machine" = true)
    (h4_need_machine : PySem.W.keepIn K (.ref fa_need_machine) = true)
    (h1_rooms : PySem.W.nsIn K mainGlobals "rooms" = some (some (.ref fa_rooms)))
    (h2_rooms : K.lookup fa_rooms = some ⟨oc_rooms, od_rooms, .func (PySem.W.fnOf "rooms" "rooms" (defArgs s_rooms) (defBody s_rooms) (defScope s_rooms) .none kV_rooms dc_rooms pm_rooms an_rooms cd_rooms ct_rooms), sl_rooms⟩)
    (h3_rooms : PySem.W.codeIn K cd_rooms "rooms" = true)
    (h4_rooms : PySem.W.keepIn K (.ref fa_rooms) = true)
    (h1_led : PySem.W.nsIn K mainGlobals "led" = some (some (.ref fa_led)))
    (h2_led : K.lookup fa_led = some ⟨oc_led, od_led, .func (PySem.W.fnOf "led" "led" (defArgs s_led) (defBody s_led) (defScope s_led) .none kV_led dc_led pm_led an_led cd_led ct_led), sl_led⟩)
    (h3_led : PySem.W.codeIn K cd_led "led" = true)
    (h4_led : PySem.W.keepIn K (.ref fa_led) = true)
    (h1_row_of : PySem.W.nsIn K mainGlobals "row_of" = some (some (.ref fa_row_of)))
    (h2_row_of : K.lookup fa_row_of = some ⟨oc_row_of, od_row_of, .func (PySem.W.fnOf "row_of" "row_of" (defArgs s_row_of) (defBody s_row_of) (defScope s_row_of) .none kV_row_of dc_row_of pm_row_of an_row_of cd_row_of ct_row_of), sl_row_of⟩)
    (h3_row_of : PySem.W.codeIn K cd_row_of "row_of" = true)
    (h4_row_of : PySem.W.keepIn K (.ref fa_row_of) = true)
    (h1_weight : PySem.W.nsIn K mainGlobals "weight" = some (some (.ref fa_weight)))
    (h2_weight : K.lookup fa_weight = some ⟨oc_weight, od_weight, .func (PySem.W.fnOf "weight" "weight" (defArgs s_weight) (defBody s_weight) (defScope s_weight) .none kV_weight dc_weight pm_weight an_weight cd_weight ct_weight), sl_weight⟩)
    (h3_weight : PySem.W.codeIn K cd_weight "weight" = true)
    (h4_weight : PySem.W.keepIn K (.ref fa_weight) = true)
    (h1_law_cell_at : PySem.W.nsIn K mainGlobals "_law_cell_at" = some (some (.ref fa_law_cell_at)))
    (h2_law_cell_at : K.lookup fa_law_cell_at = some ⟨oc_law_cell_at, od_law_cell_at, .func (PySem.W.fnOf "_law_cell_at" "_law_cell_at" (defArgs s_law_cell_at) (defBody s_law_cell_at) (defScope s_law_cell_at) .none kV_law_cell_at dc_law_cell_at pm_law_cell_at an_law_cell_at cd_law_cell_at ct_law_cell_at), sl_law_cell_at⟩)
    (h3_law_cell_at : PySem.W.codeIn K cd_law_cell_at "_law_cell_at" = true)
    (h4_law_cell_at : PySem.W.keepIn K (.ref fa_law_cell_at) = true)
    (h1_law_common : PySem.W.nsIn K mainGlobals "_law_common" = some (some (.ref fa_law_common)))
    (h2_law_common : K.lookup fa_law_common = some ⟨oc_law_common, od_law_common, .func (PySem.W.fnOf "_law_common" "_law_common" (defArgs s_law_common) (defBody s_law_common) (defScope s_law_common) .none kV_law_common dc_law_common pm_law_common an_law_common cd_law_common ct_law_common), sl_law_common⟩)
    (h3_law_common : PySem.W.codeIn K cd_law_common "_law_common" = true)
    (h4_law_common : PySem.W.keepIn K (.ref fa_law_common) = true)
    (h1_law_share : PySem.W.nsIn K mainGlobals "_law_share" = some (some (.ref fa_law_share)))
    (h2_law_share : K.lookup fa_law_share = some ⟨oc_law_share, od_law_share, .func (PySem.W.fnOf "_law_share" "_law_share" (defArgs s_law_share) (defBody s_law_share) (defScope s_law_share) .none kV_law_share dc_law_share pm_law_share an_law_share cd_law_share ct_law_share), sl_law_share⟩)
    (h3_law_share : PySem.W.codeIn K cd_law_share "_law_share" = true)
    (h4_law_share : PySem.W.keepIn K (.ref fa_law_share) = true)
    (h1_law_word_of : PySem.W.nsIn K mainGlobals "_law_word_of" = some (some (.ref fa_law_word_of)))
    (h2_law_word_of : K.lookup fa_law_word_of = some ⟨oc_law_word_of, od_law_word_of, .func (PySem.W.fnOf "_law_word_of" "_law_word_of" (defArgs s_law_word_of) (defBody s_law_word_of) (defScope s_law_word_of) .none kV_law_word_of dc_law_word_of pm_law_word_of an_law_word_of cd_law_word_of ct_law_word_of), sl_law_word_of⟩)
    (h3_law_word_of : PySem.W.codeIn K cd_law_word_of "_law_word_of" = true)
    (h4_law_word_of : PySem.W.keepIn K (.ref fa_law_word_of) = true)
    (h1_law_drawn : PySem.W.nsIn K mainGlobals "_law_drawn" = some (some (.ref fa_law_drawn)))
    (h2_law_drawn : K.lookup fa_law_drawn = some ⟨oc_law_drawn, od_law_drawn, .func (PySem.W.fnOf "_law_drawn" "_law_drawn" (defArgs s_law_drawn) (defBody s_law_drawn) (defScope s_law_drawn) .none kV_law_drawn dc_law_drawn pm_law_drawn an_law_drawn cd_law_drawn ct_law_drawn), sl_law_drawn⟩)
    (h3_law_drawn : PySem.W.codeIn K cd_law_drawn "_law_drawn" = true)
    (h4_law_drawn : PySem.W.keepIn K (.ref fa_law_drawn) = true)
    (h1_law_top : PySem.W.nsIn K mainGlobals "_law_top" = some (some (.ref fa_law_top)))
    (h2_law_top : K.lookup fa_law_top = some ⟨oc_law_top, od_law_top, .func (PySem.W.fnOf "_law_top" "_law_top" (defArgs s_law_top) (defBody s_law_top) (defScope s_law_top) .none kV_law_top dc_law_top pm_law_top an_law_top cd_law_top ct_law_top), sl_law_top⟩)
    (h3_law_top : PySem.W.codeIn K cd_law_top "_law_top" = true)
    (h4_law_top : PySem.W.keepIn K (.ref fa_law_top) = true)
    (h1_law_scales : PySem.W.nsIn K mainGlobals "_law_scales" = some (some (.ref fa_law_scales)))
    (h2_law_scales : K.lookup fa_law_scales = some ⟨oc_law_scales, od_law_scales, .func (PySem.W.fnOf "_law_scales" "_law_scales" (defArgs s_law_scales) (defBody s_law_scales) (defScope s_law_scales) .none kV_law_scales dc_law_scales pm_law_scales an_law_scales cd_law_scales ct_law_scales), sl_law_scales⟩)
    (h3_law_scales : PySem.W.codeIn K cd_law_scales "_law_scales" = true)
    (h4_law_scales : PySem.W.keepIn K (.ref fa_law_scales) = true)
    (h1_law_signs : PySem.W.nsIn K mainGlobals "_law_signs" = some (some (.ref fa_law_signs)))
    (h2_law_signs : K.lookup fa_law_signs = some ⟨oc_law_signs, od_law_signs, .func (PySem.W.fnOf "_law_signs" "_law_signs" (defArgs s_law_signs) (defBody s_law_signs) (defScope s_law_signs) .none kV_law_signs dc_law_signs pm_law_signs an_law_signs cd_law_signs ct_law_signs), sl_law_signs⟩)
    (h3_law_signs : PySem.W.codeIn K cd_law_signs "_law_signs" = true)
    (h4_law_signs : PySem.W.keepIn K (.ref fa_law_signs) = true)
    (h1_law_tops : PySem.W.nsIn K mainGlobals "_law_tops" = some (some (.ref fa_law_tops)))
    (h2_law_tops : K.lookup fa_law_tops = some ⟨oc_law_tops, od_law_tops, .func (PySem.W.fnOf "_law_tops" "_law_tops" (defArgs s_law_tops) (defBody s_law_tops) (defScope s_law_tops) .none kV_law_tops dc_law_tops pm_law_tops an_law_tops cd_law_tops ct_law_tops), sl_law_tops⟩)
    (h3_law_tops : PySem.W.codeIn K cd_law_tops "_law_tops" = true)
    (h4_law_tops : PySem.W.keepIn K (.ref fa_law_tops) = true)
    (h1_law_row : PySem.W.nsIn K mainGlobals "_law_row" = some (some (.ref fa_law_row)))
    (h2_law_row : K.lookup fa_law_row = some ⟨oc_law_row, od_law_row, .func (PySem.W.fnOf "_law_row" "_law_row" (defArgs s_law_row) (defBody s_law_row) (defScope s_law_row) .none kV_law_row dc_law_row pm_law_row an_law_row cd_law_row ct_law_row), sl_law_row⟩)
    (h3_law_row : PySem.W.codeIn K cd_law_row "_law_row" = true)
    (h4_law_row : PySem.W.keepIn K (.ref fa_law_row) = true)
    (h1_law_parts : PySem.W.nsIn K mainGlobals "_law_parts" = some (some (.ref fa_law_parts)))
    (h2_law_parts : K.lookup fa_law_parts = some ⟨oc_law_parts, od_law_parts, .func (PySem.W.fnOf "_law_parts" "_law_parts" (defArgs s_law_parts) (defBody s_law_parts) (defScope s_law_parts) .none kV_law_parts dc_law_parts pm_law_parts an_law_parts cd_law_parts ct_law_parts), sl_law_parts⟩)
    (h3_law_parts : PySem.W.codeIn K cd_law_parts "_law_parts" = true)
    (h4_law_parts : PySem.W.keepIn K (.ref fa_law_parts) = true)
    (h1_law_no_signs : PySem.W.nsIn K mainGlobals "_law_no_signs" = some (some (.ref fa_law_no_signs)))
    (h2_law_no_signs : K.lookup fa_law_no_signs = some ⟨oc_law_no_signs, od_law_no_signs, .func (PySem.W.fnOf "_law_no_signs" "_law_no_signs" (defArgs s_law_no_signs) (defBody s_law_no_signs) (defScope s_law_no_signs) .none kV_law_no_signs dc_law_no_signs pm_law_no_signs an_law_no_signs cd_law_no_signs ct_law_no_signs), sl_law_no_signs⟩)
    (h3_law_no_signs : PySem.W.codeIn K cd_law_no_signs "_law_no_signs" = true)
    (h4_law_no_signs : PySem.W.keepIn K (.ref fa_law_no_signs) = true)
    (h1_law_no_row : PySem.W.nsIn K mainGlobals "_law_no_row" = some (some (.ref fa_law_no_row)))
    (h2_law_no_row : K.lookup fa_law_no_row = some ⟨oc_law_no_row, od_law_no_row, .func (PySem.W.fnOf "_law_no_row" "_law_no_row" (defArgs s_law_no_row) (defBody s_law_no_row) (defScope s_law_no_row) .none kV_law_no_row dc_law_no_row pm_law_no_row an_law_no_row cd_law_no_row ct_law_no_row), sl_law_no_row⟩)
    (h3_law_no_row : PySem.W.codeIn K cd_law_no_row "_law_no_row" = true)
    (h4_law_no_row : PySem.W.keepIn K (.ref fa_law_no_row) = true)
    (h1_law_spoilt : PySem.W.nsIn K mainGlobals "_law_spoilt" = some (some (.ref fa_law_spoilt)))
    (h2_law_spoilt : K.lookup fa_law_spoilt = some ⟨oc_law_spoilt, od_law_spoilt, .func (PySem.W.fnOf "_law_spoilt" "_law_spoilt" (defArgs s_law_spoilt) (defBody s_law_spoilt) (defScope s_law_spoilt) .none kV_law_spoilt dc_law_spoilt pm_law_spoilt an_law_spoilt cd_law_spoilt ct_law_spoilt), sl_law_spoilt⟩)
    (h3_law_spoilt : PySem.W.codeIn K cd_law_spoilt "_law_spoilt" = true)
    (h4_law_spoilt : PySem.W.keepIn K (.ref fa_law_spoilt) = true)
    (h1_law_told : PySem.W.nsIn K mainGlobals "_law_told" = some (some (.ref fa_law_told)))
    (h2_law_told : K.lookup fa_law_told = some ⟨oc_law_told, od_law_told, .func (PySem.W.fnOf "_law_told" "_law_told" (defArgs s_law_told) (defBody s_law_told) (defScope s_law_told) .none kV_law_told dc_law_told pm_law_told an_law_told cd_law_told ct_law_told), sl_law_told⟩)
    (h3_law_told : PySem.W.codeIn K cd_law_told "_law_told" = true)
    (h4_law_told : PySem.W.keepIn K (.ref fa_law_told) = true)
    (h1_law_wide : PySem.W.nsIn K mainGlobals "_law_wide" = some (some (.ref fa_law_wide)))
    (h2_law_wide : K.lookup fa_law_wide = some ⟨oc_law_wide, od_law_wide, .func (PySem.W.fnOf "_law_wide" "_law_wide" (defArgs s_law_wide) (defBody s_law_wide) (defScope s_law_wide) .none kV_law_wide dc_law_wide pm_law_wide an_law_wide cd_law_wide ct_law_wide), sl_law_wide⟩)
    (h3_law_wide : PySem.W.codeIn K cd_law_wide "_law_wide" = true)
    (h4_law_wide : PySem.W.keepIn K (.ref fa_law_wide) = true)
    (h1_law_word_refused : PySem.W.nsIn K mainGlobals "_law_word_refused" = some (some (.ref fa_law_word_refused)))
    (h2_law_word_refused : K.lookup fa_law_word_refused = some ⟨oc_law_word_refused, od_law_word_refused, .func (PySem.W.fnOf "_law_word_refused" "_law_word_refused" (defArgs s_law_word_refused) (defBody s_law_word_refused) (defScope s_law_word_refused) .none kV_law_word_refused dc_law_word_refused pm_law_word_refused an_law_word_refused cd_law_word_refused ct_law_word_refused), sl_law_word_refused⟩)
    (h3_law_word_refused : PySem.W.codeIn K cd_law_word_refused "_law_word_refused" = true)
    (h4_law_word_refused : PySem.W.keepIn K (.ref fa_law_word_refused) = true)
    (h1_law_words_refused : PySem.W.nsIn K mainGlobals "_law_words_refused" = some (some (.ref fa_law_words_refused)))
    (h2_law_words_refused : K.lookup fa_law_words_refused = some ⟨oc_law_words_refused, od_law_words_refused, .func (PySem.W.fnOf "_law_words_refused" "_law_words_refused" (defArgs s_law_words_refused) (defBody s_law_words_refused) (defScope s_law_words_refused) .none kV_law_words_refused dc_law_words_refused pm_law_words_refused an_law_words_refused cd_law_words_refused ct_law_words_refused), sl_law_words_refused⟩)
    (h3_law_words_refused : PySem.W.codeIn K cd_law_words_refused "_law_words_refused" = true)
    (h4_law_words_refused : PySem.W.keepIn K (.ref fa_law_words_refused) = true)
    (h1_law : PySem.W.nsIn K mainGlobals "law" = some (some (.ref fa_law)))
    (h2_law : K.lookup fa_law = some ⟨oc_law, od_law, .func (PySem.W.fnOf "law" "law" (defArgs s_law) (defBody s_law) (defScope s_law) .none kV_law dc_law pm_law an_law cd_law ct_law), sl_law⟩)
    (h3_law : PySem.W.codeIn K cd_law "law" = true)
    (h4_law : PySem.W.keepIn K (.ref fa_law) = true)
    (n_isinstance : PySem.W.nsIn K mainGlobals "isinstance" = some none)
    (n_int : PySem.W.nsIn K mainGlobals "int" = some none)
    (n_bool : PySem.W.nsIn K mainGlobals "bool" = some none)
    (n_tuple : PySem.W.nsIn K mainGlobals "tuple" = some none)
    (n_len : PySem.W.nsIn K mainGlobals "len" = some none)
    (n_abs : PySem.W.nsIn K mainGlobals "abs" = some none)
    (n_zip : PySem.W.nsIn K mainGlobals "zip" = some none)
    (n_list : PySem.W.nsIn K mainGlobals "list" = some none)
    (n_all : PySem.W.nsIn K mainGlobals "all" = some none)
    (n_str : PySem.W.nsIn K mainGlobals "str" = some none)
    (n_range : PySem.W.nsIn K mainGlobals "range" = some none)
    (n_ValueError : PySem.W.nsIn K mainGlobals "ValueError" = some none)
    (m_WeighError : PySem.W.nsIn K mainGlobals "WeighError" = some (some (.ref a_WeighError)))
    (m_Nought : PySem.W.nsIn K mainGlobals "Nought" = some (some (.ref a_Nought)))
    (m_NoText : PySem.W.nsIn K mainGlobals "NoText" = some (some (.ref a_NoText)))
    (m_NoRow : PySem.W.nsIn K mainGlobals "NoRow" = some (some (.ref a_NoRow)))
    (m_NoMachine : PySem.W.nsIn K mainGlobals "NoMachine" = some (some (.ref a_NoMachine)))
    (m_NoWord : PySem.W.nsIn K mainGlobals "NoWord" = some (some (.ref a_NoWord)))
    (m_OtherSigns : PySem.W.nsIn K mainGlobals "OtherSigns" = some (some (.ref a_OtherSigns)))
    (m_TooMany : PySem.W.nsIn K mainGlobals "TooMany" = some (some (.ref a_TooMany)))
    (x_WeighError : PySem.W.excIn K a_WeighError [.type "ValueError", .type "Exception", .type "BaseException", .type "object"] "ValueError.__new__" = true)
    (k_WeighError : PySem.W.keepIn K (.ref a_WeighError) = true)
    (b_WeighError : PySem.W.subIn K (.ref a_WeighError) (.type "BaseException") = some true)
    (t_WeighError : PySem.W.typeIn K (.ref a_WeighError) = some (.type "type"))
    (x_Nought : PySem.W.excIn K a_Nought [.type "ValueError", .type "Exception", .type "BaseException", .type "object"] "ValueError.__new__" = true)
    (k_Nought : PySem.W.keepIn K (.ref a_Nought) = true)
    (b_Nought : PySem.W.subIn K (.ref a_Nought) (.type "BaseException") = some true)
    (t_Nought : PySem.W.typeIn K (.ref a_Nought) = some (.type "type"))
    (x_NoText : PySem.W.excIn K a_NoText [.type "ValueError", .type "Exception", .type "BaseException", .type "object"] "ValueError.__new__" = true)
    (k_NoText : PySem.W.keepIn K (.ref a_NoText) = true)
    (b_NoText : PySem.W.subIn K (.ref a_NoText) (.type "BaseException") = some true)
    (t_NoText : PySem.W.typeIn K (.ref a_NoText) = some (.type "type"))
    (x_NoRow : PySem.W.excIn K a_NoRow [.type "ValueError", .type "Exception", .type "BaseException", .type "object"] "ValueError.__new__" = true)
    (k_NoRow : PySem.W.keepIn K (.ref a_NoRow) = true)
    (b_NoRow : PySem.W.subIn K (.ref a_NoRow) (.type "BaseException") = some true)
    (t_NoRow : PySem.W.typeIn K (.ref a_NoRow) = some (.type "type"))
    (x_NoMachine : PySem.W.excIn K a_NoMachine [.type "ValueError", .type "Exception", .type "BaseException", .type "object"] "ValueError.__new__" = true)
    (k_NoMachine : PySem.W.keepIn K (.ref a_NoMachine) = true)
    (b_NoMachine : PySem.W.subIn K (.ref a_NoMachine) (.type "BaseException") = some true)
    (t_NoMachine : PySem.W.typeIn K (.ref a_NoMachine) = some (.type "type"))
    (x_NoWord : PySem.W.excIn K a_NoWord [.type "ValueError", .type "Exception", .type "BaseException", .type "object"] "ValueError.__new__" = true)
    (k_NoWord : PySem.W.keepIn K (.ref a_NoWord) = true)
    (b_NoWord : PySem.W.subIn K (.ref a_NoWord) (.type "BaseException") = some true)
    (t_NoWord : PySem.W.typeIn K (.ref a_NoWord) = some (.type "type"))
    (x_OtherSigns : PySem.W.excIn K a_OtherSigns [.type "ValueError", .type "Exception", .type "BaseException", .type "object"] "ValueError.__new__" = true)
    (k_OtherSigns : PySem.W.keepIn K (.ref a_OtherSigns) = true)
    (b_OtherSigns : PySem.W.subIn K (.ref a_OtherSigns) (.type "BaseException") = some true)
    (t_OtherSigns : PySem.W.typeIn K (.ref a_OtherSigns) = some (.type "type"))
    (x_TooMany : PySem.W.excIn K a_TooMany [.type "ValueError", .type "Exception", .type "BaseException", .type "object"] "ValueError.__new__" = true)
    (k_TooMany : PySem.W.keepIn K (.ref a_TooMany) = true)
    (b_TooMany : PySem.W.subIn K (.ref a_TooMany) (.type "BaseException") = some true)
    (t_TooMany : PySem.W.typeIn K (.ref a_TooMany) = some (.type "type"))
    (dc_WeighError : PySem.W.hasDictIn K a_WeighError = true)
    (s_NoMachine_WeighError : PySem.W.subIn K (.ref a_NoMachine) (.ref a_WeighError) = some true)
    (g1_NoMachine : PySem.W.findIn K (.ref a_NoMachine) "__getattribute__" = some (some (.builtin "BaseException.__getattribute__")))
    (g2_NoMachine : PySem.W.findIn K (.ref a_NoMachine) "__getattr__" = some none)
    (g4_NoMachine : PySem.W.hasDictIn K a_NoMachine = true)
    (g5_NoMachine : PySem.W.findIn K (.ref a_NoMachine) "__class__" = some (some (.builtin "object.__class__")))
    (g6_NoMachine : PySem.W.specialIn K (.builtin "object.__class__") "__get__" = some (some (.builtin "getset_descriptor.__get__")))
    (g7_NoMachine : PySem.W.takesIn K (.builtin "object.__class__") = some true)
    (g8_NoMachine : PySem.W.mroIn K a_NoMachine (.type "object") = some true)
    (ic_Nought : PySem.W.isClsIn K a_Nought = true)
    (ne_NoMachine_Nought : a_NoMachine ≠ a_Nought)
    (s_NoMachine_Nought : PySem.W.subIn K (.ref a_NoMachine) (.ref a_Nought) = some false)
    (ic_NoText : PySem.W.isClsIn K a_NoText = true)
    (ne_NoMachine_NoText : a_NoMachine ≠ a_NoText)
    (s_NoMachine_NoText : PySem.W.subIn K (.ref a_NoMachine) (.ref a_NoText) = some false)
    (ic_NoRow : PySem.W.isClsIn K a_NoRow = true)
    (ne_NoMachine_NoRow : a_NoMachine ≠ a_NoRow)
    (s_NoMachine_NoRow : PySem.W.subIn K (.ref a_NoMachine) (.ref a_NoRow) = some false)
    (ic_NoWord : PySem.W.isClsIn K a_NoWord = true)
    (ne_NoMachine_NoWord : a_NoMachine ≠ a_NoWord)
    (s_NoMachine_NoWord : PySem.W.subIn K (.ref a_NoMachine) (.ref a_NoWord) = some false)
    (ic_OtherSigns : PySem.W.isClsIn K a_OtherSigns = true)
    (ne_NoMachine_OtherSigns : a_NoMachine ≠ a_OtherSigns)
    (s_NoMachine_OtherSigns : PySem.W.subIn K (.ref a_NoMachine) (.ref a_OtherSigns) = some false)
    (ic_TooMany : PySem.W.isClsIn K a_TooMany = true)
    (ne_NoMachine_TooMany : a_NoMachine ≠ a_TooMany)
    (s_NoMachine_TooMany : PySem.W.subIn K (.ref a_NoMachine) (.ref a_TooMany) = some false)
    (sv_NoMachine : PySem.W.subIn K (.ref a_NoMachine) (.type "ValueError") = some true)
    (s_TooMany_WeighError : PySem.W.subIn K (.ref a_TooMany) (.ref a_WeighError) = some true)
    (g1_TooMany : PySem.W.findIn K (.ref a_TooMany) "__getattribute__" = some (some (.builtin "BaseException.__getattribute__")))
    (g2_TooMany : PySem.W.findIn K (.ref a_TooMany) "__getattr__" = some none)
    (g4_TooMany : PySem.W.hasDictIn K a_TooMany = true)
    (g5_TooMany : PySem.W.findIn K (.ref a_TooMany) "__class__" = some (some (.builtin "object.__class__")))
    (g6_TooMany : PySem.W.specialIn K (.builtin "object.__class__") "__get__" = some (some (.builtin "getset_descriptor.__get__")))
    (g7_TooMany : PySem.W.takesIn K (.builtin "object.__class__") = some true)
    (g8_TooMany : PySem.W.mroIn K a_TooMany (.type "object") = some true)
    (ne_TooMany_Nought : a_TooMany ≠ a_Nought)
    (s_TooMany_Nought : PySem.W.subIn K (.ref a_TooMany) (.ref a_Nought) = some false)
    (ne_TooMany_NoText : a_TooMany ≠ a_NoText)
    (s_TooMany_NoText : PySem.W.subIn K (.ref a_TooMany) (.ref a_NoText) = some false)
    (ne_TooMany_NoRow : a_TooMany ≠ a_NoRow)
    (s_TooMany_NoRow : PySem.W.subIn K (.ref a_TooMany) (.ref a_NoRow) = some false)
    (ic_NoMachine : PySem.W.isClsIn K a_NoMachine = true)
    (ne_TooMany_NoMachine : a_TooMany ≠ a_NoMachine)
    (s_TooMany_NoMachine : PySem.W.subIn K (.ref a_TooMany) (.ref a_NoMachine) = some false)
    (ne_TooMany_NoWord : a_TooMany ≠ a_NoWord)
    (s_TooMany_NoWord : PySem.W.subIn K (.ref a_TooMany) (.ref a_NoWord) = some false)
    (ne_TooMany_OtherSigns : a_TooMany ≠ a_OtherSigns)
    (s_TooMany_OtherSigns : PySem.W.subIn K (.ref a_TooMany) (.ref a_OtherSigns) = some false)
    (sv_TooMany : PySem.W.subIn K (.ref a_TooMany) (.type "ValueError") = some true)
    (s_NoWord_WeighError : PySem.W.subIn K (.ref a_NoWord) (.ref a_WeighError) = some true)
    (g1_NoWord : PySem.W.findIn K (.ref a_NoWord) "__getattribute__" = some (some (.builtin "BaseException.__getattribute__")))
    (g2_NoWord : PySem.W.findIn K (.ref a_NoWord) "__getattr__" = some none)
    (g4_NoWord : PySem.W.hasDictIn K a_NoWord = true)
    (g5_NoWord : PySem.W.findIn K (.ref a_NoWord) "__class__" = some (some (.builtin "object.__class__")))
    (g6_NoWord : PySem.W.specialIn K (.builtin "object.__class__") "__get__" = some (some (.builtin "getset_descriptor.__get__")))
    (g7_NoWord : PySem.W.takesIn K (.builtin "object.__class__") = some true)
    (g8_NoWord : PySem.W.mroIn K a_NoWord (.type "object") = some true)
    (ne_NoWord_Nought : a_NoWord ≠ a_Nought)
    (s_NoWord_Nought : PySem.W.subIn K (.ref a_NoWord) (.ref a_Nought) = some false)
    (ne_NoWord_NoText : a_NoWord ≠ a_NoText)
    (s_NoWord_NoText : PySem.W.subIn K (.ref a_NoWord) (.ref a_NoText) = some false)
    (ne_NoWord_NoRow : a_NoWord ≠ a_NoRow)
    (s_NoWord_NoRow : PySem.W.subIn K (.ref a_NoWord) (.ref a_NoRow) = some false)
    (ne_NoWord_NoMachine : a_NoWord ≠ a_NoMachine)
    (s_NoWord_NoMachine : PySem.W.subIn K (.ref a_NoWord) (.ref a_NoMachine) = some false)
    (ne_NoWord_OtherSigns : a_NoWord ≠ a_OtherSigns)
    (s_NoWord_OtherSigns : PySem.W.subIn K (.ref a_NoWord) (.ref a_OtherSigns) = some false)
    (ne_NoWord_TooMany : a_NoWord ≠ a_TooMany)
    (s_NoWord_TooMany : PySem.W.subIn K (.ref a_NoWord) (.ref a_TooMany) = some false)
    (sv_NoWord : PySem.W.subIn K (.ref a_NoWord) (.type "ValueError") = some true)
    (m_Machine : PySem.W.nsIn K mainGlobals "Machine" = some (some (.ref a_Machine)))
    (pg_Machine : PySem.W.plainGet K a_Machine Str.empty = true)
    (hd_Machine : PySem.W.hasDictIn K a_Machine = true)
    (po_Machine : PySem.W.plainOver K a_Machine = true)
    (sa_Machine : PySem.W.findIn K (.ref a_Machine) "__setattr__" = some (some (.builtin "object.__setattr__")))
    (oc_Machine : PySem.W.findIn K (.ref a_Machine) "__class__" = some (some (.builtin "object.__class__")))
    (og_Machine : PySem.W.specialIn K (.builtin "object.__class__") "__get__" = some (some (.builtin "getset_descriptor.__get__")))
    (ot_Machine : PySem.W.takesIn K (.builtin "object.__class__") = some true)
    (om_Machine : PySem.W.mroIn K a_Machine (.type "object") = some true)
    (na_Machine_signs : PySem.W.findIn K (.ref a_Machine) "signs" = some none)
    (na_Machine_begins : PySem.W.findIn K (.ref a_Machine) "begins" = some none)
    (na_Machine_moves : PySem.W.findIn K (.ref a_Machine) "moves" = some none)
    (na_Machine_ends : PySem.W.findIn K (.ref a_Machine) "ends" = some none)
    (h5_MachineD_initD : PySem.W.findIn K (.ref a_Machine) "__init__" = some (some (.ref fa_MachineD_initD)))
    (h6_MachineD_initD : PySem.W.isFn K (.ref fa_MachineD_initD) = true)
    (mk_Machine : PySem.W.makesIn K a_Machine = true)
    (kc_Machine : PySem.W.keepIn K (.ref a_Machine) = true)
    (m_NONE : PySem.W.nsIn K mainGlobals "NONE" = some (some (.ref a_NONE)))
    (l_NONE : K.lookup a_NONE = some ⟨.type "tuple", od_NONE, .seq #[.int 0 tk_NONE, .int 1 tl_NONE] n_NONE, sl_NONE⟩)
    (m_MOST_SIGNS : PySem.W.nsIn K mainGlobals "MOST_SIGNS" = some (some (.int 6 tk_MOST_SIGNS)))
    (m_MOST_ROOMS : PySem.W.nsIn K mainGlobals "MOST_ROOMS" = some (some (.int 12 tk_MOST_ROOMS)))
    (h2_MachineD_initD : K.lookup fa_MachineD_initD = some ⟨oc_MachineD_initD, od_MachineD_initD, .func (PySem.W.fnOf "__init__" "Machine.__init__" (defArgs s_MachineD_initD) (defBody s_MachineD_initD) (defScope s_MachineD_initD) .none kV_MachineD_initD dc_MachineD_initD pm_MachineD_initD an_MachineD_initD cd_MachineD_initD ct_MachineD_initD), sl_MachineD_initD⟩)
    (h3_MachineD_initD : PySem.W.codeIn K cd_MachineD_initD "Machine.__init__" = true)
    (h4_MachineD_initD : PySem.W.keepIn K (.ref fa_MachineD_initD) = true) :
    ∃ fd : FuncData, (∀ (s : Shared) (v : Value), BindsTo s fd ⟨[v], []⟩ [("_law_script", v)]) ∧ ∀ base : Heap, K.In base → base.Ns mainGlobals mg → FnOk l.prog w K mg base CX0 20 fa fd ["_law_script"] (spLaw K) := by
  have e := hfa.symm.trans (PySem.W.mg_of X G h1_law)
  cases e
  have T : Tx K mg a_WeighError a_Nought a_NoText a_NoRow a_NoMachine a_NoWord a_OtherSigns a_TooMany a_Machine a_NONE := {
    d_is_whole := ⟨_, _, fun_mk (st := s_is_whole) h2_is_whole h3_is_whole h4_is_whole, PySem.W.mg_of X G h1_is_whole, (fun_mk (st := s_is_whole) h2_is_whole h3_is_whole h4_is_whole).binds (ps := ["thing"]) fun _ _ _ _ _ _ us hl => match us, hl with | [_], _ => rfl⟩,
    d_divisor := ⟨_, _, fun_mk (st := s_divisor) h2_divisor h3_divisor h4_divisor, PySem.W.mg_of X G h1_divisor, (fun_mk (st := s_divisor) h2_divisor h3_divisor h4_divisor).binds (ps := ["one", "other"]) fun _ _ _ _ _ _ us hl => match us, hl with | [_, _], _ => rfl⟩,
    d_is_share := ⟨_, _, fun_mk (st := s_is_share) h2_is_share h3_is_share h4_is_share, PySem.W.mg_of X G h1_is_share, (fun_mk (st := s_is_share) h2_is_share h3_is_share h4_is_share).binds (ps := ["thing"]) fun _ _ _ _ _ _ us hl => match us, hl with | [_], _ => rfl⟩,
    d_share := ⟨_, _, fun_mk (st := s_share) h2_share h3_share h4_share, PySem.W.mg_of X G h1_share, (fun_mk (st := s_share) h2_share h3_share h4_share).binds (ps := ["top", "bottom"]) fun _ _ _ _ _ _ us hl => match us, hl with | [_, _], _ => rfl⟩,
    d_plus := ⟨_, _, fun_mk (st := s_plus) h2_plus h3_plus h4_plus, PySem.W.mg_of X G h1_plus, (fun_mk (st := s_plus) h2_plus h3_plus h4_plus).binds (ps := ["one", "other"]) fun _ _ _ _ _ _ us hl => match us, hl with | [_, _], _ => rfl⟩,
    d_times := ⟨_, _, fun_mk (st := s_times) h2_times h3_times h4_times, PySem.W.mg_of X G h1_times, (fun_mk (st := s_times) h2_times h3_times h4_times).binds (ps := ["one", "other"]) fun _ _ _ _ _ _ us hl => match us, hl with | [_, _], _ => rfl⟩,
    d_weighed := ⟨_, _, fun_mk (st := s_weighed) h2_weighed h3_weighed h4_weighed, PySem.W.mg_of X G h1_weighed, (fun_mk (st := s_weighed) h2_weighed h3_weighed h4_weighed).binds (ps := ["row", "other"]) fun _ _ _ _ _ _ us hl => match us, hl with | [_, _], _ => rfl⟩,
    d_is_row := ⟨_, _, fun_mk (st := s_is_row) h2_is_row h3_is_row h4_is_row, PySem.W.mg_of X G h1_is_row, (fun_mk (st := s_is_row) h2_is_row h3_is_row h4_is_row).binds (ps := ["thing", "size"]) fun _ _ _ _ _ _ us hl => match us, hl with | [_, _], _ => rfl⟩,
    d_are_signs := ⟨_, _, fun_mk (st := s_are_signs) h2_are_signs h3_are_signs h4_are_signs, PySem.W.mg_of X G h1_are_signs, (fun_mk (st := s_are_signs) h2_are_signs h3_are_signs h4_are_signs).binds (ps := ["thing"]) fun _ _ _ _ _ _ us hl => match us, hl with | [_], _ => rfl⟩,
    d_is_table := ⟨_, _, fun_mk (st := s_is_table) h2_is_table h3_is_table h4_is_table, PySem.W.mg_of X G h1_is_table, (fun_mk (st := s_is_table) h2_is_table h3_is_table h4_is_table).binds (ps := ["thing", "many"]) fun _ _ _ _ _ _ us hl => match us, hl with | [_, _], _ => rfl⟩,
    d_need_machine := ⟨_, _, fun_mk (st := s_need_machine) h2_need_machine h3_need_machine h4_need_machine, PySem.W.mg_of X G h1_need_machine, (fun_mk (st := s_need_machine) h2_need_machine h3_need_machine h4_need_machine).binds (ps := ["signs", "begins", "moves", "ends"]) fun _ _ _ _ _ _ us hl => match us, hl with | [_, _, _, _], _ => rfl⟩,
    d_rooms := ⟨_, _, fun_mk (st := s_rooms) h2_rooms h3_rooms h4_rooms, PySem.W.mg_of X G h1_rooms, (fun_mk (st := s_rooms) h2_rooms h3_rooms h4_rooms).binds (ps := ["machine"]) fun _ _ _ _ _ _ us hl => match us, hl with | [_], _ => rfl⟩,
    d_led := ⟨_, _, fun_mk (st := s_led) h2_led h3_led h4_led, PySem.W.mg_of X G h1_led, (fun_mk (st := s_led) h2_led h3_led h4_led).binds (ps := ["row", "table"]) fun _ _ _ _ _ _ us hl => match us, hl with | [_, _], _ => rfl⟩,
    d_row_of := ⟨_, _, fun_mk (st := s_row_of) h2_row_of h3_row_of h4_row_of, PySem.W.mg_of X G h1_row_of, (fun_mk (st := s_row_of) h2_row_of h3_row_of h4_row_of).binds (ps := ["machine", "word"]) fun _ _ _ _ _ _ us hl => match us, hl with | [_, _], _ => rfl⟩,
    d_weight := ⟨_, _, fun_mk (st := s_weight) h2_weight h3_weight h4_weight, PySem.W.mg_of X G h1_weight, (fun_mk (st := s_weight) h2_weight h3_weight h4_weight).binds (ps := ["machine", "word"]) fun _ _ _ _ _ _ us hl => match us, hl with | [_, _], _ => rfl⟩,
    d__law_cell_at := ⟨_, _, fun_mk (st := s_law_cell_at) h2_law_cell_at h3_law_cell_at h4_law_cell_at, PySem.W.mg_of X G h1_law_cell_at, (fun_mk (st := s_law_cell_at) h2_law_cell_at h3_law_cell_at h4_law_cell_at).binds (ps := ["_law_script", "_law_k"]) fun _ _ _ _ _ _ us hl => match us, hl with | [_, _], _ => rfl⟩,
    d__law_common := ⟨_, _, fun_mk (st := s_law_common) h2_law_common h3_law_common h4_law_common, PySem.W.mg_of X G h1_law_common, (fun_mk (st := s_law_common) h2_law_common h3_law_common h4_law_common).binds (ps := ["_law_one", "_law_other"]) fun _ _ _ _ _ _ us hl => match us, hl with | [_, _], _ => rfl⟩,
    d__law_share := ⟨_, _, fun_mk (st := s_law_share) h2_law_share h3_law_share h4_law_share, PySem.W.mg_of X G h1_law_share, (fun_mk (st := s_law_share) h2_law_share h3_law_share h4_law_share).binds (ps := ["_law_top_here", "_law_bottom"]) fun _ _ _ _ _ _ us hl => match us, hl with | [_, _], _ => rfl⟩,
    d__law_word_of := ⟨_, _, fun_mk (st := s_law_word_of) h2_law_word_of h3_law_word_of h4_law_word_of, PySem.W.mg_of X G h1_law_word_of, (fun_mk (st := s_law_word_of) h2_law_word_of h3_law_word_of h4_law_word_of).binds (ps := ["_law_e"]) fun _ _ _ _ _ _ us hl => match us, hl with | [_], _ => rfl⟩,
    d__law_drawn := ⟨_, _, fun_mk (st := s_law_drawn) h2_law_drawn h3_law_drawn h4_law_drawn, PySem.W.mg_of X G h1_law_drawn, (fun_mk (st := s_law_drawn) h2_law_drawn h3_law_drawn h4_law_drawn).binds (ps := ["_law_script", "_law_k"]) fun _ _ _ _ _ _ us hl => match us, hl with | [_, _], _ => rfl⟩,
    d__law_top := ⟨_, _, fun_mk (st := s_law_top) h2_law_top h3_law_top h4_law_top, PySem.W.mg_of X G h1_law_top, (fun_mk (st := s_law_top) h2_law_top h3_law_top h4_law_top).binds (ps := ["_law_cell"]) fun _ _ _ _ _ _ us hl => match us, hl with | [_], _ => rfl⟩,
    d__law_scales := ⟨_, _, fun_mk (st := s_law_scales) h2_law_scales h3_law_scales h4_law_scales, PySem.W.mg_of X G h1_law_scales, (fun_mk (st := s_law_scales) h2_law_scales h3_law_scales h4_law_scales).binds (ps := ["_law_cell"]) fun _ _ _ _ _ _ us hl => match us, hl with | [_], _ => rfl⟩,
    d__law_signs := ⟨_, _, fun_mk (st := s_law_signs) h2_law_signs h3_law_signs h4_law_signs, PySem.W.mg_of X G h1_law_signs, (fun_mk (st := s_law_signs) h2_law_signs h3_law_signs h4_law_signs).binds (ps := ["_law_cell"]) fun _ _ _ _ _ _ us hl => match us, hl with | [_], _ => rfl⟩,
    d__law_tops := ⟨_, _, fun_mk (st := s_law_tops) h2_law_tops h3_law_tops h4_law_tops, PySem.W.mg_of X G h1_law_tops, (fun_mk (st := s_law_tops) h2_law_tops h3_law_tops h4_law_tops).binds (ps := ["_law_script", "_law_first", "_law_signs_here", "_law_many"]) fun _ _ _ _ _ _ us hl => match us, hl with | [_, _, _, _], _ => rfl⟩,
    d__law_row := ⟨_, _, fun_mk (st := s_law_row) h2_law_row h3_law_row h4_law_row, PySem.W.mg_of X G h1_law_row, (fun_mk (st := s_law_row) h2_law_row h3_law_row h4_law_row).binds (ps := ["_law_tops_here", "_law_scale"]) fun _ _ _ _ _ _ us hl => match us, hl with | [_, _], _ => rfl⟩,
    d__law_parts := ⟨_, _, fun_mk (st := s_law_parts) h2_law_parts h3_law_parts h4_law_parts, PySem.W.mg_of X G h1_law_parts, (fun_mk (st := s_law_parts) h2_law_parts h3_law_parts h4_law_parts).binds (ps := ["_law_signs_here", "_law_tops_here", "_law_scales_here"]) fun _ _ _ _ _ _ us hl => match us, hl with | [_, _, _], _ => rfl⟩,
    d__law_no_signs := ⟨_, _, fun_mk (st := s_law_no_signs) h2_law_no_signs h3_law_no_signs h4_law_no_signs, PySem.W.mg_of X G h1_law_no_signs, (fun_mk (st := s_law_no_signs) h2_law_no_signs h3_law_no_signs h4_law_no_signs).binds (ps := ["_law_cell", "_law_signs_here"]) fun _ _ _ _ _ _ us hl => match us, hl with | [_, _], _ => rfl⟩,
    d__law_no_row := ⟨_, _, fun_mk (st := s_law_no_row) h2_law_no_row h3_law_no_row h4_law_no_row, PySem.W.mg_of X G h1_law_no_row, (fun_mk (st := s_law_no_row) h2_law_no_row h3_law_no_row h4_law_no_row).binds (ps := ["_law_cell", "_law_row_here"]) fun _ _ _ _ _ _ us hl => match us, hl with | [_, _], _ => rfl⟩,
    d__law_spoilt := ⟨_, _, fun_mk (st := s_law_spoilt) h2_law_spoilt h3_law_spoilt h4_law_spoilt, PySem.W.mg_of X G h1_law_spoilt, (fun_mk (st := s_law_spoilt) h2_law_spoilt h3_law_spoilt h4_law_spoilt).binds (ps := ["_law_parts_here", "_law_cell"]) fun _ _ _ _ _ _ us hl => match us, hl with | [_, _], _ => rfl⟩,
    d__law_told := ⟨_, _, fun_mk (st := s_law_told) h2_law_told h3_law_told h4_law_told, PySem.W.mg_of X G h1_law_told, (fun_mk (st := s_law_told) h2_law_told h3_law_told h4_law_told).binds (ps := ["_law_parts_here"]) fun _ _ _ _ _ _ us hl => match us, hl with | [_], _ => rfl⟩,
    d__law_wide := ⟨_, _, fun_mk (st := s_law_wide) h2_law_wide h3_law_wide h4_law_wide, PySem.W.mg_of X G h1_law_wide, (fun_mk (st := s_law_wide) h2_law_wide h3_law_wide h4_law_wide).binds (ps := ["_law_many", "_law_sign"]) fun _ _ _ _ _ _ us hl => match us, hl with | [_, _], _ => rfl⟩,
    d__law_word_refused := ⟨_, _, fun_mk (st := s_law_word_refused) h2_law_word_refused h3_law_word_refused h4_law_word_refused, PySem.W.mg_of X G h1_law_word_refused, (fun_mk (st := s_law_word_refused) h2_law_word_refused h3_law_word_refused h4_law_word_refused).binds (ps := ["_law_way", "_law_machine", "_law_word"]) fun _ _ _ _ _ _ us hl => match us, hl with | [_, _, _], _ => rfl⟩,
    d__law_words_refused := ⟨_, _, fun_mk (st := s_law_words_refused) h2_law_words_refused h3_law_words_refused h4_law_words_refused, PySem.W.mg_of X G h1_law_words_refused, (fun_mk (st := s_law_words_refused) h2_law_words_refused h3_law_words_refused h4_law_words_refused).binds (ps := ["_law_machine", "_law_signs_here", "_law_cell"]) fun _ _ _ _ _ _ us hl => match us, hl with | [_, _, _], _ => rfl⟩,
    d_law := ⟨_, _, fun_mk (st := s_law) h2_law h3_law h4_law, PySem.W.mg_of X G h1_law, (fun_mk (st := s_law) h2_law h3_law h4_law).binds (ps := ["_law_script"]) fun _ _ _ _ _ _ us hl => match us, hl with | [_], _ => rfl⟩,
    n_isinstance := PySem.W.mg_none_of X G n_isinstance,
    n_int := PySem.W.mg_none_of X G n_int,
    n_bool := PySem.W.mg_none_of X G n_bool,
    n_tuple := PySem.W.mg_none_of X G n_tuple,
    n_len := PySem.W.mg_none_of X G n_len,
    n_abs := PySem.W.mg_none_of X G n_abs,
    n_zip := PySem.W.mg_none_of X G n_zip,
    n_list := PySem.W.mg_none_of X G n_list,
    n_all := PySem.W.mg_none_of X G n_all,
    n_str := PySem.W.mg_none_of X G n_str,
    n_range := PySem.W.mg_none_of X G n_range,
    n_ValueError := PySem.W.mg_none_of X G n_ValueError,
    m_WeighError := PySem.W.mg_of X G m_WeighError,
    m_Nought := PySem.W.mg_of X G m_Nought,
    m_NoText := PySem.W.mg_of X G m_NoText,
    m_NoRow := PySem.W.mg_of X G m_NoRow,
    m_NoMachine := PySem.W.mg_of X G m_NoMachine,
    m_NoWord := PySem.W.mg_of X G m_NoWord,
    m_OtherSigns := PySem.W.mg_of X G m_OtherSigns,
    m_TooMany := PySem.W.mg_of X G m_TooMany,
    x_WeighError := x_WeighError,
    k_WeighError := k_WeighError,
    b_WeighError := b_WeighError,
    t_WeighError := t_WeighError,
    x_Nought := x_Nought,
    k_Nought := k_Nought,
    b_Nought := b_Nought,
    t_Nought := t_Nought,
    x_NoText := x_NoText,
    k_NoText := k_NoText,
    b_NoText := b_NoText,
    t_NoText := t_NoText,
    x_NoRow := x_NoRow,
    k_NoRow := k_NoRow,
    b_NoRow := b_NoRow,
    t_NoRow := t_NoRow,
    x_NoMachine := x_NoMachine,
    k_NoMachine := k_NoMachine,
    b_NoMachine := b_NoMachine,
    t_NoMachine := t_NoMachine,
    x_NoWord := x_NoWord,
    k_NoWord := k_NoWord,
    b_NoWord := b_NoWord,
    t_NoWord := t_NoWord,
    x_OtherSigns := x_OtherSigns,
    k_OtherSigns := k_OtherSigns,
    b_OtherSigns := b_OtherSigns,
    t_OtherSigns := t_OtherSigns,
    x_TooMany := x_TooMany,
    k_TooMany := k_TooMany,
    b_TooMany := b_TooMany,
    t_TooMany := t_TooMany,
    em_NoMachine := PySem.W.exm_ref b_WeighError dc_WeighError t_WeighError s_NoMachine_WeighError,
    ge_NoMachine := ⟨g1_NoMachine, g2_NoMachine, b_NoMachine, g4_NoMachine, g5_NoMachine, g6_NoMachine, g7_NoMachine, g8_NoMachine⟩,
    is_NoMachine_Nought := kit_other ne_NoMachine_Nought ic_Nought t_Nought s_NoMachine_Nought,
    is_NoMachine_NoText := kit_other ne_NoMachine_NoText ic_NoText t_NoText s_NoMachine_NoText,
    is_NoMachine_NoRow := kit_other ne_NoMachine_NoRow ic_NoRow t_NoRow s_NoMachine_NoRow,
    is_NoMachine_NoMachine := kit_self,
    is_NoMachine_NoWord := kit_other ne_NoMachine_NoWord ic_NoWord t_NoWord s_NoMachine_NoWord,
    is_NoMachine_OtherSigns := kit_other ne_NoMachine_OtherSigns ic_OtherSigns t_OtherSigns s_NoMachine_OtherSigns,
    is_NoMachine_TooMany := kit_other ne_NoMachine_TooMany ic_TooMany t_TooMany s_NoMachine_TooMany,
    iv_NoMachine := kit_val sv_NoMachine,
    em_TooMany := PySem.W.exm_ref b_WeighError dc_WeighError t_WeighError s_TooMany_WeighError,
    ge_TooMany := ⟨g1_TooMany, g2_TooMany, b_TooMany, g4_TooMany, g5_TooMany, g6_TooMany, g7_TooMany, g8_TooMany⟩,
    is_TooMany_Nought := kit_other ne_TooMany_Nought ic_Nought t_Nought s_TooMany_Nought,
    is_TooMany_NoText := kit_other ne_TooMany_NoText ic_NoText t_NoText s_TooMany_NoText,
    is_TooMany_NoRow := kit_other ne_TooMany_NoRow ic_NoRow t_NoRow s_TooMany_NoRow,
    is_TooMany_NoMachine := kit_other ne_TooMany_NoMachine ic_NoMachine t_NoMachine s_TooMany_NoMachine,
    is_TooMany_NoWord := kit_other ne_TooMany_NoWord ic_NoWord t_NoWord s_TooMany_NoWord,
    is_TooMany_OtherSigns := kit_other ne_TooMany_OtherSigns ic_OtherSigns t_OtherSigns s_TooMany_OtherSigns,
    is_TooMany_TooMany := kit_self,
    iv_TooMany := kit_val sv_TooMany,
    em_NoWord := PySem.W.exm_ref b_WeighError dc_WeighError t_WeighError s_NoWord_WeighError,
    ge_NoWord := ⟨g1_NoWord, g2_NoWord, b_NoWord, g4_NoWord, g5_NoWord, g6_NoWord, g7_NoWord, g8_NoWord⟩,
    is_NoWord_Nought := kit_other ne_NoWord_Nought ic_Nought t_Nought s_NoWord_Nought,
    is_NoWord_NoText := kit_other ne_NoWord_NoText ic_NoText t_NoText s_NoWord_NoText,
    is_NoWord_NoRow := kit_other ne_NoWord_NoRow ic_NoRow t_NoRow s_NoWord_NoRow,
    is_NoWord_NoMachine := kit_other ne_NoWord_NoMachine ic_NoMachine t_NoMachine s_NoWord_NoMachine,
    is_NoWord_NoWord := kit_self,
    is_NoWord_OtherSigns := kit_other ne_NoWord_OtherSigns ic_OtherSigns t_OtherSigns s_NoWord_OtherSigns,
    is_NoWord_TooMany := kit_other ne_NoWord_TooMany ic_TooMany t_TooMany s_NoWord_TooMany,
    iv_NoWord := kit_val sv_NoWord,
    m_Machine := PySem.W.mg_of X G m_Machine,
    cl_Machine := ⟨pg_Machine, hd_Machine, po_Machine, sa_Machine⟩,
    ti_Machine := ⟨⟨pg_Machine, hd_Machine, po_Machine, sa_Machine⟩, oc_Machine, og_Machine, ot_Machine, om_Machine⟩,
    na_Machine_signs := na_Machine_signs,
    na_Machine_begins := na_Machine_begins,
    na_Machine_moves := na_Machine_moves,
    na_Machine_ends := na_Machine_ends,
    i_Machine := ⟨_, _, ⟨mk_Machine, h5_MachineD_initD, h6_MachineD_initD, kc_Machine⟩, fun_mk (st := s_MachineD_initD) h2_MachineD_initD h3_MachineD_initD h4_MachineD_initD, (fun_mk (st := s_MachineD_initD) h2_MachineD_initD h3_MachineD_initD h4_MachineD_initD).binds (ps := ["self", "signs", "begins", "moves", "ends"]) fun _ _ _ _ _ _ us hl => match us, hl with | [_, _, _, _, _], _ => rfl⟩,
    m_NONE := PySem.W.mg_of X G m_NONE,
    q_NONE := sqt_pair l_NONE,
    m_MOST_SIGNS := ⟨_, PySem.W.mg_of X G m_MOST_SIGNS⟩,
    m_MOST_ROOMS := ⟨_, PySem.W.mg_of X G m_MOST_ROOMS⟩ }
  exact ⟨PySem.W.fnOf "law" "law" (defArgs s_law) (defBody s_law) (defScope s_law) .none kV_law dc_law pm_law an_law cd_law ct_law, fun s v => .of_eq rfl, fun base _ _ => ok_law T (fun_mk (st := s_law) h2_law h3_law h4_law)⟩
end Kx
open PySem PySem.W PyProof.Rows
set_option maxRecDepth 100000 in
set_option maxHeartbeats 0 in
theorem PySem.Challenge.cw_weighwords_k05_machines_refused_holds : PySem.Challenge.rw_weighwords_k05_machines_refused.Holds := by
  w_on; o_law; k_head; (case hw => w_witness2)
  k_fill
  refine L2.walk_ofB (l := PySem.Challenge.rw_weighwords_k05_machines_refused) (n := 63) (k := 20) (x := "_law_script") (CX := fun _ => L2.CX0) (sp := fun w => DL.spLaw _) rfl (by decide) rfl ⟨rfl, by decide, by decide⟩ (fun w h Y => PySem.W.kIn_of Y) ?F (fun _ _ a ns hl hb _ hS => ⟨a, ns, rfl, hS, hl, hb, fun _ => rfl⟩) (fun _ _ _ _ _ h => h)
  case F =>
    intro w mg fa h KX G hmg
    refine' Kx.all_mk KX G hmg ?h1_is_whole ?h2_is_whole ?h3_is_whole ?h4_is_whole ?h1_divisor ?h2_divisor ?h3_divisor ?h4_divisor ?h1_is_share ?h2_is_share ?h3_is_share ?h4_is_share ?h1_share ?h2_share ?h3_share ?h4_share ?h1_plus ?h2_plus ?h3_plus ?h4_plus ?h1_times ?h2_times ?h3_times ?h4_times ?h1_weighed ?h2_weighed ?h3_weighed ?h4_weighed ?h1_is_row ?h2_is_row ?h3_is_row ?h4_is_row ?h1_are_signs ?h2_are_signs ?h3_are_signs ?h4_are_signs ?h1_is_table ?h2_is_table ?h3_is_table ?h4_is_table ?h1_need_machine ?h2_need_machine ?h3_need_machine ?h4_need_machine ?h1_rooms ?h2_rooms ?h3_rooms ?h4_rooms ?h1_led ?h2_led ?h3_led ?h4_led ?h1_row_of ?h2_row_of ?h3_row_of ?h4_row_of ?h1_weight ?h2_weight ?h3_weight ?h4_weight ?h1_law_cell_at ?h2_law_cell_at ?h3_law_cell_at ?h4_law_cell_at ?h1_law_common ?h2_law_common ?h3_law_common ?h4_law_common ?h1_law_share ?h2_law_share ?h3_law_share ?h4_law_share ?h1_law_word_of ?h2_law_word_of ?h3_law_word_of ?h4_law_word_of ?h1_law_drawn ?h2_law_drawn ?h3_law_drawn ?h4_law_drawn ?h1_law_top ?h2_law_top ?h3_law_top ?h4_law_top ?h1_law_scales ?h2_law_scales ?h3_law_scales ?h4_law_scales ?h1_law_signs ?h2_law_signs ?h3_law_signs ?h4_law_signs ?h1_law_tops ?h2_law_tops ?h3_law_tops ?h4_law_tops ?h1_law_row ?h2_law_row ?h3_law_row ?h4_law_row ?h1_law_parts ?h2_law_parts ?h3_law_parts ?h4_law_parts ?h1_law_no_signs ?h2_law_no_signs ?h3_law_no_signs ?h4_law_no_signs ?h1_law_no_row ?h2_law_no_row ?h3_law_no_row ?h4_law_no_row ?h1_law_spoilt ?h2_law_spoilt ?h3_law_spoilt ?h4_law_spoilt ?h1_law_told ?h2_law_told ?h3_law_told ?h4_law_told ?h1_law_wide ?h2_law_wide ?h3_law_wide ?h4_law_wide ?h1_law_word_refused ?h2_law_word_refused ?h3_law_word_refused ?h4_law_word_refused ?h1_law_words_refused ?h2_law_words_refused ?h3_law_words_refused ?h4_law_words_refused ?h1_law ?h2_law ?h3_law ?h4_law ?n_isinstance ?n_int ?n_bool ?n_tuple ?n_len ?n_abs ?n_zip ?n_list ?n_all ?n_str ?n_range ?n_ValueError ?m_WeighError ?m_Nought ?m_NoText ?m_NoRow ?m_NoMachine ?m_NoWord ?m_OtherSigns ?m_TooMany ?x_WeighError ?k_WeighError ?b_WeighError ?t_WeighError ?x_Nought ?k_Nought ?b_Nought ?t_Nought ?x_NoText ?k_NoText ?b_NoText ?t_NoText ?x_NoRow ?k_NoRow ?b_NoRow ?t_NoRow ?x_NoMachine ?k_NoMachine ?b_NoMachine ?t_NoMachine ?x_NoWord ?k_NoWord ?b_NoWord ?t_NoWord ?x_OtherSigns ?k_OtherSigns ?b_OtherSigns ?t_OtherSigns ?x_TooMany ?k_TooMany ?b_TooMany ?t_TooMany ?dc_WeighError ?s_NoMachine_WeighError ?g1_NoMachine ?g2_NoMachine ?g4_NoMachine ?g5_NoMachine ?g6_NoMachine ?g7_NoMachine ?g8_NoMachine ?ic_Nought ?ne_NoMachine_Nought ?s_NoMachine_Nought ?ic_NoText ?ne_NoMachine_NoText ?s_NoMachine_NoText ?ic_NoRow ?ne_NoMachine_NoRow ?s_NoMachine_NoRow ?ic_NoWord ?ne_NoMachine_NoWord ?s_NoMachine_NoWord ?ic_OtherSigns ?ne_NoMachine_OtherSigns ?s_NoMachine_OtherSigns ?ic_TooMany ?ne_NoMachine_TooMany ?s_NoMachine_TooMany ?sv_NoMachine ?s_TooMany_WeighError ?g1_TooMany ?g2_TooMany ?g4_TooMany ?g5_TooMany ?g6_TooMany ?g7_TooMany ?g8_TooMany ?ne_TooMany_Nought ?s_TooMany_Nought ?ne_TooMany_NoText ?s_TooMany_NoText ?ne_TooMany_NoRow ?s_TooMany_NoRow ?ic_NoMachine ?ne_TooMany_NoMachine ?s_TooMany_NoMachine ?ne_TooMany_NoWord ?s_TooMany_NoWord ?ne_TooMany_OtherSigns ?s_TooMany_OtherSigns ?sv_TooMany ?s_NoWord_WeighError ?g1_NoWord ?g2_NoWord ?g4_NoWord ?g5_NoWord ?g6_NoWord ?g7_NoWord ?g8_NoWord ?ne_NoWord_Nought ?s_NoWord_Nought ?ne_NoWord_NoText ?s_NoWord_NoText ?ne_NoWord_NoRow ?s_NoWord_NoRow ?ne_NoWord_NoMachine ?s_NoWord_NoMachine ?ne_NoWord_OtherSigns ?s_NoWord_OtherSigns ?ne_NoWord_TooMany ?s_NoWord_TooMany ?sv_NoWord ?m_Machine ?pg_Machine ?hd_Machine ?po_Machine ?sa_Machine ?oc_Machine ?og_Machine ?ot_Machine ?om_Machine ?na_Machine_signs ?na_Machine_begins ?na_Machine_moves ?na_Machine_ends ?h5_MachineD_initD ?h6_MachineD_initD ?mk_Machine ?kc_Machine ?m_NONE ?l_NONE ?m_MOST_SIGNS ?m_MOST_ROOMS ?h2_MachineD_initD ?h3_MachineD_initD ?h4_MachineD_initD
    (case h1_is_whole => k_is)
    (case h2_is_whole => k_is)
    (case h3_is_whole => k_is)
    (case h4_is_whole => k_is)
    (case h1_divisor => k_is)
    (case h2_divisor => k_is)
    (case h3_divisor => k_is)
    (case h4_divisor => k_is)
    (case h1_is_share => k_is)
    (case h2_is_share => k_is)
    (case h3_is_share => k_is)
    (case h4_is_share => k_is)
    (case h1_share => k_is)
    (case h2_share => k_is)
    (case h3_share => k_is)
    (case h4_share => k_is)
    (case h1_plus => k_is)
    (case h2_plus => k_is)
    (case h3_plus => k_is)
    (case h4_plus => k_is)
    (case h1_times => k_is)
    (case h2_times => k_is)
    (case h3_times => k_is)
    (case h4_times => k_is)
    (case h1_weighed => k_is)
    (case h2_weighed => k_is)
    (case h3_weighed => k_is)
    (case h4_weighed => k_is)
    (case h1_is_row => k_is)
    (case h2_is_row => k_is)
    (case h3_is_row => k_is)
    (case h4_is_row => k_is)
    (case h1_are_signs => k_is)
    (case h2_are_signs => k_is)
    (case h3_are_signs => k_is)
    (case h4_are_signs => k_is)
    (case h1_is_table => k_is)
    (case h2_is_table => k_is)
    (case h3_is_table => k_is)
    (case h4_is_table => k_is)
    (case h1_need_machine => k_is)
    (case h2_need_machine => k_is)
    (case h3_need_machine => k_is)
    (case h4_need_machine => k_is)
    (case h1_rooms => k_is)
    (case h2_rooms => k_is)
    (case h3_rooms => k_is)
    (case h4_rooms => k_is)
    (case h1_led => k_is)
    (case h2_led => k_is)
    (case h3_led => k_is)
    (case h4_led => k_is)
    (case h1_row_of => k_is)
    (case h2_row_of => k_is)
    (case h3_row_of => k_is)
    (case h4_row_of => k_is)
    (case h1_weight => k_is)
    (case h2_weight => k_is)
    (case h3_weight => k_is)
    (case h4_weight => k_is)
    (case h1_law_cell_at => k_is)
    (case h2_law_cell_at => k_is)
    (case h3_law_cell_at => k_is)
    (case h4_law_cell_at => k_is)
    (case h1_law_common => k_is)
    (case h2_law_common => k_is)
    (case h3_law_common => k_is)
    (case h4_law_common => k_is)
    (case h1_law_share => k_is)
    (case h2_law_share => k_is)
    (case h3_law_share => k_is)
    (case h4_law_share => k_is)
    (case h1_law_word_of => k_is)
    (case h2_law_word_of => k_is)
    (case h3_law_word_of => k_is)
    (case h4_law_word_of => k_is)
    (case h1_law_drawn => k_is)
    (case h2_law_drawn => k_is)
    (case h3_law_drawn => k_is)
    (case h4_law_drawn => k_is)
    (case h1_law_top => k_is)
    (case h2_law_top => k_is)
    (case h3_law_top => k_is)
    (case h4_law_top => k_is)
    (case h1_law_scales => k_is)
    (case h2_law_scales => k_is)
    (case h3_law_scales => k_is)
    (case h4_law_scales => k_is)
    (case h1_law_signs => k_is)
    (case h2_law_signs => k_is)
    (case h3_law_signs => k_is)
    (case h4_law_signs => k_is)
    (case h1_law_tops => k_is)
    (case h2_law_tops => k_is)
    (case h3_law_tops => k_is)
    (case h4_law_tops => k_is)
    (case h1_law_row => k_is)
    (case h2_law_row => k_is)
    (case h3_law_row => k_is)
    (case h4_law_row => k_is)
    (case h1_law_parts => k_is)
    (case h2_law_parts => k_is)
    (case h3_law_parts => k_is)
    (case h4_law_parts => k_is)
    (case h1_law_no_signs => k_is)
    (case h2_law_no_signs => k_is)
    (case h3_law_no_signs => k_is)
    (case h4_law_no_signs => k_is)
    (case h1_law_no_row => k_is)
    (case h2_law_no_row => k_is)
    (case h3_law_no_row => k_is)
    (case h4_law_no_row => k_is)
    (case h1_law_spoilt => k_is)
    (case h2_law_spoilt => k_is)
    (case h3_law_spoilt => k_is)
    (case h4_law_spoilt => k_is)
    (case h1_law_told => k_is)
    (case h2_law_told => k_is)
    (case h3_law_told => k_is)
    (case h4_law_told => k_is)
    (case h1_law_wide => k_is)
    (case h2_law_wide => k_is)
    (case h3_law_wide => k_is)
    (case h4_law_wide => k_is)
    (case h1_law_word_refused => k_is)
    (case h2_law_word_refused => k_is)
    (case h3_law_word_refused => k_is)
    (case h4_law_word_refused => k_is)
    (case h1_law_words_refused => k_is)
    (case h2_law_words_refused => k_is)
    (case h3_law_words_refused => k_is)
    (case h4_law_words_refused => k_is)
    (case h1_law => k_is)
    (case h2_law => k_is)
    (case h3_law => k_is)
    (case h4_law => k_is)
    (case n_isinstance => k_is)
    (case n_int => k_is)
    (case n_bool => k_is)
    (case n_tuple => k_is)
    (case n_len => k_is)
    (case n_abs => k_is)
    (case n_zip => k_is)
    (case n_list => k_is)
    (case n_all => k_is)
    (case n_str => k_is)
    (case n_range => k_is)
    (case n_ValueError => k_is)
    (case m_WeighError => k_is)
    (case m_Nought => k_is)
    (case m_NoText => k_is)
    (case m_NoRow => k_is)
    (case m_NoMachine => k_is)
    (case m_NoWord => k_is)
    (case m_OtherSigns => k_is)
    (case m_TooMany => k_is)
    (case x_WeighError => k_exc)
    (case k_WeighError => k_is)
    (case b_WeighError => k_is)
    (case t_WeighError => k_is)
    (case x_Nought => k_exc)
    (case k_Nought => k_is)
    (case b_Nought => k_is)
    (case t_Nought => k_is)
    (case x_NoText => k_exc)
    (case k_NoText => k_is)
    (case b_NoText => k_is)
    (case t_NoText => k_is)
    (case x_NoRow => k_exc)
    (case k_NoRow => k_is)
    (case b_NoRow => k_is)
    (case t_NoRow => k_is)
    (case x_NoMachine => k_exc)
    (case k_NoMachine => k_is)
    (case b_NoMachine => k_is)
    (case t_NoMachine => k_is)
    (case x_NoWord => k_exc)
    (case k_NoWord => k_is)
    (case b_NoWord => k_is)
    (case t_NoWord => k_is)
    (case x_OtherSigns => k_exc)
    (case k_OtherSigns => k_is)
    (case b_OtherSigns => k_is)
    (case t_OtherSigns => k_is)
    (case x_TooMany => k_exc)
    (case k_TooMany => k_is)
    (case b_TooMany => k_is)
    (case t_TooMany => k_is)
    (case dc_WeighError => k_is)
    (case s_NoMachine_WeighError => k_is)
    (case g1_NoMachine => k_is)
    (case g2_NoMachine => k_is)
    (case g4_NoMachine => k_is)
    (case g5_NoMachine => k_is)
    (case g6_NoMachine => k_is)
    (case g7_NoMachine => k_is)
    (case g8_NoMachine => k_is)
    (case ic_Nought => k_is)
    (case ne_NoMachine_Nought => decide)
    (case s_NoMachine_Nought => k_is)
    (case ic_NoText => k_is)
    (case ne_NoMachine_NoText => decide)
    (case s_NoMachine_NoText => k_is)
    (case ic_NoRow => k_is)
    (case ne_NoMachine_NoRow => decide)
    (case s_NoMachine_NoRow => k_is)
    (case ic_NoWord => k_is)
    (case ne_NoMachine_NoWord => decide)
    (case s_NoMachine_NoWord => k_is)
    (case ic_OtherSigns => k_is)
    (case ne_NoMachine_OtherSigns => decide)
    (case s_NoMachine_OtherSigns => k_is)
    (case ic_TooMany => k_is)
    (case ne_NoMachine_TooMany => decide)
    (case s_NoMachine_TooMany => k_is)
    (case sv_NoMachine => k_is)
    (case s_TooMany_WeighError => k_is)
    (case g1_TooMany => k_is)
    (case g2_TooMany => k_is)
    (case g4_TooMany => k_is)
    (case g5_TooMany => k_is)
    (case g6_TooMany => k_is)
    (case g7_TooMany => k_is)
    (case g8_TooMany => k_is)
    (case ne_TooMany_Nought => decide)
    (case s_TooMany_Nought => k_is)
    (case ne_TooMany_NoText => decide)
    (case s_TooMany_NoText => k_is)
    (case ne_TooMany_NoRow => decide)
    (case s_TooMany_NoRow => k_is)
    (case ic_NoMachine => k_is)
    (case ne_TooMany_NoMachine => decide)
    (case s_TooMany_NoMachine => k_is)
    (case ne_TooMany_NoWord => decide)
    (case s_TooMany_NoWord => k_is)
    (case ne_TooMany_OtherSigns => decide)
    (case s_TooMany_OtherSigns => k_is)
    (case sv_TooMany => k_is)
    (case s_NoWord_WeighError => k_is)
    (case g1_NoWord => k_is)
    (case g2_NoWord => k_is)
    (case g4_NoWord => k_is)
    (case g5_NoWord => k_is)
    (case g6_NoWord => k_is)
    (case g7_NoWord => k_is)
    (case g8_NoWord => k_is)
    (case ne_NoWord_Nought => decide)
    (case s_NoWord_Nought => k_is)
    (case ne_NoWord_NoText => decide)
    (case s_NoWord_NoText => k_is)
    (case ne_NoWord_NoRow => decide)
    (case s_NoWord_NoRow => k_is)
    (case ne_NoWord_NoMachine => decide)
    (case s_NoWord_NoMachine => k_is)
    (case ne_NoWord_OtherSigns => decide)
    (case s_NoWord_OtherSigns => k_is)
    (case ne_NoWord_TooMany => decide)
    (case s_NoWord_TooMany => k_is)
    (case sv_NoWord => k_is)
    (case m_Machine => k_is)
    (case pg_Machine => k_is)
    (case hd_Machine => k_is)
    (case po_Machine => k_is)
    (case sa_Machine => k_is)
    (case oc_Machine => k_is)
    (case og_Machine => k_is)
    (case ot_Machine => k_is)
    (case om_Machine => k_is)
    (case na_Machine_signs => k_is)
    (case na_Machine_begins => k_is)
    (case na_Machine_moves => k_is)
    (case na_Machine_ends => k_is)
    (case h5_MachineD_initD => k_is)
    (case h6_MachineD_initD => k_is)
    (case mk_Machine => k_is)
    (case kc_Machine => k_is)
    (case m_NONE => k_is)
    (case l_NONE => k_is)
    (case m_MOST_SIGNS => k_is)
    (case m_MOST_ROOMS => k_is)
    (case h2_MachineD_initD => k_is)
    (case h3_MachineD_initD => k_is)
    (case h4_MachineD_initD => k_is)

