import PyProof.Rows.All
import Wide.All
import OpenK.AllK
import Wide.FinOn
import HandS.ForMost
import HandS.Exc
import HandS.TryOnly
import HandS.ExcOwn
import HandS.WordsExc
import HandS.IsInst
import HandS.Wide
import HandS.Walk
import HandS.Style
import HandS.ExcIs
import HandS.HotCalls
import HandS.EndBits
import HandS.StrMore
import PyProof.ReprRoads
import KE.KRevSl
import PyProof.StrWalks
import KE.KDictList
import HandS.Iter
import HandS.Conv
import HandS.Codes
import PyProof.StrBlock2
import PySem.Challenge.RW_weighwords_k04_spans
set_option Elab.async false
set_option linter.all false
set_option maxRecDepth 100000
set_option maxHeartbeats 1000000
namespace DL
open PySem L2

/-! ### heaps: a frozen part F below the whole H -/
theorem same_upd {H : Hp} {p : Addr} {o : HO} (h : H p = none) : Same H (upd H p o) := fun b x e => by
  rw [upd_ne (ne_of_none e h)]
  exact e
structure Gr (F H F' H' : Hp) : Prop where
  f : Same F F'
  s : Same F' H'
  h : Same H H'
  n : ∀ a, F a = none → H a ≠ none → F' a = none
section
variable {F H F1 H1 F2 H2 : Hp} {p : Addr} {o : HO}
theorem Gr.refl (s : Same F H) : Gr F H F H := ⟨Same.refl F, s, Same.refl H, fun _ h _ => h⟩
theorem some_ne {H H' : Hp} (e : Same H H') {a : Addr} (h : H a ≠ none) : H' a ≠ none := by
  cases q : H a with
  | none => exact absurd q h
  | some o => rw [e a o q]; exact fun z => nomatch z
theorem Gr.trans (a : Gr F H F1 H1) (b : Gr F1 H1 F2 H2) : Gr F H F2 H2 :=
  ⟨a.f.trans b.f, b.s, a.h.trans b.h, fun x h1 h2 => b.n x (a.n x h1 h2) (some_ne a.h h2)⟩
/-- a new object, frozen at once -/
theorem Gr.new (s : Same F H) (hp : H p = none) : Gr F H (upd F p o) (upd H p o) := by
  have fp : F p = none := s.free hp
  refine ⟨same_upd fp, fun a u e => ?_, same_upd hp, fun a h1 h2 => ?_⟩
  · by_cases ha : a = p
    · subst ha; rw [upd_same] at e; rw [upd_same]; exact e
    · rw [upd_ne ha] at e; rw [upd_ne ha]; exact s a u e
  · have ha : a ≠ p := fun z => h2 (by rw [z]; exact hp)
    rw [upd_ne ha]; exact h1
/-- a new object, not frozen -/
theorem Gr.newO (s : Same F H) (hp : H p = none) : Gr F H F (upd H p o) :=
  ⟨Same.refl F, fun a u e => by rw [upd_ne (ne_of_none (s a u e) hp)]; exact s a u e, same_upd hp, fun _ h _ => h⟩
/-- a new object in the whole stays out of what grows -/
theorem Gr.out (g : Gr F H F1 H1) (h1 : F p = none) (h2 : H p = some o) : F1 p = none ∧ H1 p = some o :=
  ⟨g.n p h1 (by rw [h2]; exact fun z => nomatch z), g.h p o h2⟩
end

/-! ### data -/
inductive D where
  | non | bl (b : Bool) | int (i : Int) | str (x : Str) | lst (ds : List D) | tup (ds : List D) | dct | scr (ns : List Int) | adr (a : Addr) | ty (n : String) | ins (C : Addr) (fs : List (Str × D)) | dic (fs : List (Str × D))
mutual
inductive Rp (K : PySem.W.Frag) (H : Hp) : V → D → Prop
  | non : Rp K H .non .non
  | bl (b : Bool) : Rp K H (.bl b) (.bl b)
  | int (i : Int) : Rp K H (.int i) (.int i)
  | str (x : Str) : Rp K H (.str x) (.str x)
  | lst {a : Addr} {xs : List V} {ds : List D} : H a = some (.lst xs) → RpA K H xs ds → Rp K H (.ref a) (.lst ds)
  | tup {a : Addr} {xs : List V} {ds : List D} : SqT K H a xs → RpA K H xs ds → Rp K H (.ref a) (.tup ds)
  | dct {a : Addr} : H a = some (.dK []) → Rp K H (.ref a) .dct
  | scr {a : Addr} {ns : List Int} : SqL K H a (ns.map V.int) → Rp K H (.ref a) (.scr ns)
  | adr (a : Addr) : Rp K H (.ref a) (.adr a)
  | ty (n : String) : Rp K H (.ty n) (.ty n)
  | ins {a C dx : Addr} {fs : List (Str × V)} {gs : List (Str × D)} : H a = some (.ins C dx fs) → RpF K H fs gs → Rp K H (.ref a) (.ins C gs)
  | dic {a : Addr} {fs : List (Str × V)} {gs : List (Str × D)} : H a = some (.dK (fs.map fun p => (Sum.inr p.1, p.2))) → RpF K H fs gs → Rp K H (.ref a) (.dic gs)
inductive RpA (K : PySem.W.Frag) (H : Hp) : List V → List D → Prop
  | nil : RpA K H [] []
  | cons {v : V} {vs : List V} {d : D} {ds : List D} : Rp K H v d → RpA K H vs ds → RpA K H (v :: vs) (d :: ds)
inductive RpF (K : PySem.W.Frag) (H : Hp) : List (Str × V) → List (Str × D) → Prop
  | nil : RpF K H [] []
  | cons {f : Str} {v : V} {vs : List (Str × V)} {d : D} {ds : List (Str × D)} : Rp K H v d → RpF K H vs ds → RpF K H ((f, v) :: vs) ((f, d) :: ds)
end
theorem sqt_mono {K : PySem.W.Frag} {H H' : Hp} {a : Addr} {xs : List V} (e : Same H H') (h : SqT K H a xs) : SqT K H' a xs := by
  rcases h with (h | ⟨o, h⟩) | h
  · exact .inl (.inl (e _ _ h))
  · exact .inl (.inr ⟨o, e _ _ h⟩)
  · exact .inr h
section
variable {K : PySem.W.Frag} {H H' : Hp}
mutual
theorem Rp.mono (e : Same H H') : ∀ {v : V} {d : D}, Rp K H v d → Rp K H' v d
  | _, _, .non => .non
  | _, _, .bl b => .bl b
  | _, _, .int i => .int i
  | _, _, .str x => .str x
  | _, _, .lst h a => .lst (e _ _ h) (RpA.mono e a)
  | _, _, .tup h a => .tup (sqt_mono e h) (RpA.mono e a)
  | _, _, .dct h => .dct (e _ _ h)
  | _, _, .scr h => .scr (e.seq h)
  | _, _, .adr a => .adr a
  | _, _, .ty n => .ty n
  | _, _, .ins h a => .ins (e _ _ h) (RpF.mono e a)
  | _, _, .dic h a => .dic (e _ _ h) (RpF.mono e a)
theorem RpA.mono (e : Same H H') : ∀ {vs : List V} {ds : List D}, RpA K H vs ds → RpA K H' vs ds
  | _, _, .nil => .nil
  | _, _, .cons h t => .cons (Rp.mono e h) (RpA.mono e t)
theorem RpF.mono (e : Same H H') : ∀ {vs : List (Str × V)} {ds : List (Str × D)}, RpF K H vs ds → RpF K H' vs ds
  | _, _, .nil => .nil
  | _, _, .cons h t => .cons (Rp.mono e h) (RpF.mono e t)
end
theorem RpA.len : ∀ {vs : List V} {ds : List D}, RpA K H vs ds → vs.length = ds.length
  | _, _, .nil => rfl
  | _, _, .cons _ t => congrArg Nat.succ (RpA.len t)
theorem RpA.get : ∀ {vs : List V} {ds : List D} {i : Nat} {d : D}, RpA K H vs ds → ds[i]? = some d → ∃ v, vs[i]? = some v ∧ Rp K H v d
  | _, _, _, _, .nil, e => by simp at e
  | _, _, 0, _, .cons h _, e => by
    simp at e
    subst e
    exact ⟨_, rfl, h⟩
  | _, _, i + 1, d, .cons _ t, e => by
    obtain ⟨v, h1, h2⟩ := RpA.get (i := i) (d := d) t (by simpa using e)
    exact ⟨v, by simpa using h1, h2⟩
theorem RpA.getV : ∀ {vs : List V} {ds : List D} {i : Nat} {v : V}, RpA K H vs ds → vs[i]? = some v → ∃ d, ds[i]? = some d ∧ Rp K H v d
  | _, _, _, _, .nil, e => by simp at e
  | _, _, 0, _, .cons h _, e => by
    simp at e
    subst e
    exact ⟨_, rfl, h⟩
  | _, _, i + 1, d, .cons _ t, e => by
    obtain ⟨v, h1, h2⟩ := RpA.getV (i := i) t (by simpa using e)
    exact ⟨v, by simpa using h1, h2⟩
theorem RpA.append : ∀ {vs ws : List V} {ds es : List D}, RpA K H vs ds → RpA K H ws es → RpA K H (vs ++ ws) (ds ++ es)
  | _, _, _, _, .nil, t => t
  | _, _, _, _, .cons h t, u => .cons h (RpA.append t u)
theorem RpA.one {v : V} {d : D} (h : Rp K H v d) : RpA K H [v] [d] := .cons h .nil
theorem RpA.take (n : Nat) : ∀ {vs : List V} {ds : List D}, RpA K H vs ds → RpA K H (vs.take n) (ds.take n) := by
  induction n with
  | zero => intro vs ds h; exact .nil
  | succ n ih =>
    intro vs ds h
    cases h with
    | nil => exact .nil
    | cons h t => exact .cons h (ih t)
theorem RpA.drop (n : Nat) : ∀ {vs : List V} {ds : List D}, RpA K H vs ds → RpA K H (vs.drop n) (ds.drop n) := by
  induction n with
  | zero => intro vs ds h; exact h
  | succ n ih =>
    intro vs ds h
    cases h with
    | nil => exact .nil
    | cons h t => exact ih t
theorem RpA.reverse : ∀ {vs : List V} {ds : List D}, RpA K H vs ds → RpA K H vs.reverse ds.reverse
  | _, _, .nil => .nil
  | _, _, .cons h t => by rw [List.reverse_cons, List.reverse_cons]; exact (RpA.reverse t).append (.one h)
theorem RpA.ints : ∀ {vs : List V} {ns : List Int}, RpA K H vs (ns.map D.int) → vs = ns.map V.int
  | _, [], .nil => rfl
  | _, _ :: _, .cons (.int _) t => by rw [RpA.ints t]; rfl
theorem RpA.ofInts (ns : List Int) : RpA K H (ns.map V.int) (ns.map D.int) := by
  induction ns with
  | nil => exact .nil
  | cons n r ih => exact .cons (.int n) ih
theorem RpA.bls : ∀ {vs : List V} {ns : List Bool}, RpA K H vs (ns.map D.bl) → vs = ns.map V.bl
  | _, [], .nil => rfl
  | _, _ :: _, .cons (.bl _) t => by rw [RpA.bls t]; rfl
theorem RpA.strs : ∀ {vs : List V} {ns : List Str}, RpA K H vs (ns.map D.str) → vs = ns.map V.str
  | _, [], .nil => rfl
  | _, _ :: _, .cons (.str _) t => by rw [RpA.strs t]; rfl
theorem RpA.ofStrs (ns : List Str) : RpA K H (ns.map V.str) (ns.map D.str) := by
  induction ns with
  | nil => exact .nil
  | cons n r ih => exact .cons (.str n) ih
theorem RpA.rep {vs : List V} {ds : List D} (h : RpA K H vs ds) (n : Nat) : RpA K H (List.replicate n vs).flatten (List.replicate n ds).flatten := by
  induction n with
  | zero => exact .nil
  | succ n ih =>
    rw [List.replicate_succ, List.replicate_succ, List.flatten_cons, List.flatten_cons]
    exact h.append ih
theorem RpF.look {f : Str} {d : D} : ∀ {vs : List (Str × V)} {ds : List (Str × D)}, RpF K H vs ds → ds.lookup f = some d → ∃ v, vs.lookup f = some v ∧ Rp K H v d
  | _, _, .nil, e => by simp at e
  | (g, v) :: vs, (_, d') :: ds, .cons h t, e => by
    by_cases hg : (f == g) = true
    · simp only [List.lookup, hg] at e ⊢
      cases e
      exact ⟨v, rfl, h⟩
    · have hg' : (f == g) = false := by simpa using hg
      simp only [List.lookup, hg'] at e ⊢
      exact RpF.look t e
theorem RpF.lookNone {f : Str} : ∀ {vs : List (Str × V)} {ds : List (Str × D)}, RpF K H vs ds → ds.lookup f = none → vs.lookup f = none
  | _, _, .nil, e => rfl
  | (g, v) :: vs, (_, d') :: ds, .cons h t, e => by
    by_cases hg : (f == g) = true
    · simp only [List.lookup, hg] at e
      cases e
    · have hg' : (f == g) = false := by simpa using hg
      simp only [List.lookup, hg'] at e ⊢
      exact RpF.lookNone t e
end

/-! ### slots -/
/-- what a slot owns: a list, an instance -/
inductive Ow where
  | lst (ds : List D) | ins (q : Option Addr) (C : Addr) (gs : List (Str × D))
def Ow.toD : Ow → D
  | .lst ds => .lst ds
  | .ins _ C gs => .ins C gs
/-- where it stands, if that is told -/
def Ow.at : Ow → Addr → Prop
  | .ins (some q) _ _, p => q = p
  | _, _ => True
inductive RpO (K : PySem.W.Frag) (F : Hp) : HO → Ow → Prop
  | lst {vs : List V} {ds : List D} : RpA K F vs ds → RpO K F (.lst vs) (.lst ds)
  | ins {q : Option Addr} {C dx : Addr} {fs : List (Str × V)} {gs : List (Str × D)} : RpF K F fs gs → RpO K F (.ins C dx fs) (.ins q C gs)
theorem RpO.mono {K : PySem.W.Frag} {H H' : Hp} {h : HO} {o : Ow} (e : Same H H') (r : RpO K H h o) : RpO K H' h o := by
  cases r with
  | lst r => exact .lst (r.mono e)
  | ins r => exact .ins (r.mono e)
theorem RpO.rp {K : PySem.W.Frag} {F : Hp} {p : Addr} {h : HO} {o : Ow} (hp : F p = some h) (r : RpO K F h o) : Rp K F (.ref p) o.toD := by
  cases r with
  | lst r => exact .lst hp r
  | ins r => exact .ins hp r
inductive Sl where
  | no | fz (d : D) | own (o : Ow)
abbrev Sl.ow (ds : List D) : Sl := .own (.lst ds)
abbrev Sl.ob (q : Option Addr) (C : Addr) (gs : List (Str × D)) : Sl := .own (.ins q C gs)
abbrev Gam := List Sl
structure Ok (K : PySem.W.Frag) (F0 H0 F H : Hp) (σ : L2.St) (Γ : Gam) : Prop where
  g : Gr F0 H0 F H
  len : σ.length = Γ.length
  fz : ∀ (i : Nat) (d : D), Γ[i]? = some (.fz d) → ∃ v, σ[i]? = some (some v) ∧ Rp K F v d
  ow : ∀ (i : Nat) (o : Ow), Γ[i]? = some (.own o) → ∃ p h, σ[i]? = some (some (.ref p)) ∧ H p = some h ∧ F p = none ∧ H0 p = none ∧ RpO K F h o ∧ o.at p
  ap : ∀ (i j : Nat) (ds es : Ow) (p : Addr), i ≠ j → Γ[i]? = some (.own ds) → Γ[j]? = some (.own es) → σ[i]? = some (some (.ref p)) → σ[j]? ≠ some (some (.ref p))
section
variable {K : PySem.W.Frag} {F0 H0 F H F1 H1 : Hp} {σ : L2.St} {Γ : Gam}
theorem Ok.grow (o : Ok K F0 H0 F H σ Γ) (g : Gr F H F1 H1) : Ok K F0 H0 F1 H1 σ Γ :=
  ⟨o.g.trans g, o.len, fun i d h => by
    obtain ⟨v, h1, h2⟩ := o.fz i d h
    exact ⟨v, h1, h2.mono g.f⟩, fun i ds h => by
    obtain ⟨p, vs, h1, h2, h3, h4, h5, h6⟩ := o.ow i ds h
    obtain ⟨a, b⟩ := g.out h3 h2
    exact ⟨p, vs, h1, b, a, h4, h5.mono g.f, h6⟩, o.ap⟩
theorem set_get {α : Type} {l : List α} {i j : Nat} {x y : α} (h : (l.set i x)[j]? = some y) : (i = j ∧ y = x) ∨ (i ≠ j ∧ l[j]? = some y) := by
  by_cases e : i = j
  · subst e
    by_cases hl : i < l.length
    · rw [List.getElem?_set_self hl] at h
      exact .inl ⟨rfl, (Option.some.inj h).symm⟩
    · rw [List.getElem?_eq_none (by simpa using hl)] at h
      cases h
  · rw [List.getElem?_set_ne e] at h
    exact .inr ⟨e, h⟩
theorem set_at {α β : Type} {l : List α} {m : List β} (e : l.length = m.length) {i : Nat} {x : α} {y z : β} (h : (m.set i y)[i]? = some z) : (l.set i x)[i]? = some x := by
  have hl : i < m.length := by
    by_cases hl : i < m.length
    · exact hl
    · rw [List.getElem?_eq_none (by simpa using hl)] at h
      cases h
  exact List.getElem?_set_self (by omega)
/-- a slot takes a frozen value -/
theorem Ok.set (o : Ok K F0 H0 F H σ Γ) {i : Nat} {v : V} {d : D} (r : Rp K F v d) : Ok K F0 H0 F H (σ.set i (some v)) (Γ.set i (.fz d)) := by
  refine ⟨o.g, by simpa using o.len, fun j e h => ?_, fun j ds h => ?_, fun j k ds es p hjk h1 h2 h3 h4 => ?_⟩
  · rcases set_get h with ⟨rfl, q⟩ | ⟨n, q⟩
    · cases q
      exact ⟨v, set_at o.len h, r⟩
    · rw [List.getElem?_set_ne n]
      exact o.fz j e q
  · rcases set_get h with ⟨rfl, q⟩ | ⟨n, q⟩
    · cases q
    · rw [List.getElem?_set_ne n]
      exact o.ow j ds q
  · rcases set_get h1 with ⟨rfl, q⟩ | ⟨n1, q1⟩
    · cases q
    · rcases set_get h2 with ⟨rfl, q⟩ | ⟨n2, q2⟩
      · cases q
      · rw [List.getElem?_set_ne n1] at h3
        rw [List.getElem?_set_ne n2] at h4
        exact o.ap j k ds es p hjk q1 q2 h3 h4
/-- what stands in a slot is forgotten -/
theorem Ok.no (o : Ok K F0 H0 F H σ Γ) (i : Nat) (x : Option V) : Ok K F0 H0 F H (σ.set i x) (Γ.set i .no) := by
  refine ⟨o.g, by simpa using o.len, fun j e h => ?_, fun j ds h => ?_, fun j k ds es p hjk h1 h2 h3 h4 => ?_⟩
  · rcases set_get h with ⟨rfl, q⟩ | ⟨n, q⟩
    · cases q
    · rw [List.getElem?_set_ne n]
      exact o.fz j e q
  · rcases set_get h with ⟨rfl, q⟩ | ⟨n, q⟩
    · cases q
    · rw [List.getElem?_set_ne n]
      exact o.ow j ds q
  · rcases set_get h1 with ⟨rfl, q⟩ | ⟨n1, q1⟩
    · cases q
    · rcases set_get h2 with ⟨rfl, q⟩ | ⟨n2, q2⟩
      · cases q
      · rw [List.getElem?_set_ne n1] at h3
        rw [List.getElem?_set_ne n2] at h4
        exact o.ap j k ds es p hjk q1 q2 h3 h4
/-- Γ tells less -/
def Le (Γ Γ' : Gam) : Prop := Γ.length = Γ'.length ∧ ∀ (i : Nat) (s : Sl), Γ'[i]? = some s → s = .no ∨ Γ[i]? = some s
theorem Ok.le {Γ' : Gam} (o : Ok K F0 H0 F H σ Γ) (l : Le Γ Γ') : Ok K F0 H0 F H σ Γ' := by
  refine ⟨o.g, o.len.trans l.1, fun i d h => ?_, fun i ds h => ?_, fun i j ds es p hij h1 h2 => ?_⟩
  · rcases l.2 i _ h with q | q
    · cases q
    · exact o.fz i d q
  · rcases l.2 i _ h with q | q
    · cases q
    · exact o.ow i ds q
  · rcases l.2 i _ h1 with q | q
    · cases q
    · rcases l.2 j _ h2 with q2 | q2
      · cases q2
      · exact o.ap i j ds es p hij q q2
theorem Le.refl (Γ : Gam) : Le Γ Γ := ⟨rfl, fun _ _ h => .inr h⟩
theorem Le.cons {s s' : Sl} {Γ Γ' : Gam} (h : s' = .no ∨ s = s') (l : Le Γ Γ') : Le (s :: Γ) (s' :: Γ') := by
  refine ⟨by simp [l.1], fun i x e => ?_⟩
  cases i with
  | zero =>
    simp at e
    subst e
    rcases h with h | h
    · exact .inl h
    · exact .inr (by simp [h])
  | succ i => exact (l.2 i x (by simpa using e)).imp id fun q => by simpa using q
theorem Le.nil : Le [] [] := Le.refl _
theorem Le.trans {Γ Γ' Γ'' : Gam} (a : Le Γ Γ') (b : Le Γ' Γ'') : Le Γ Γ'' := ⟨a.1.trans b.1, fun i s h => by
  rcases b.2 i s h with q | q
  · exact .inl q
  · exact a.2 i s q⟩
/-- a new list, owned -/
theorem Ok.setOw (o : Ok K F0 H0 F H σ Γ) {i : Nat} {p : Addr} {h : HO} {ds : Ow} (hp : H p = none) (r : RpO K F h ds) (ha : ds.at p) : Ok K F0 H0 F (upd H p h) (σ.set i (some (.ref p))) (Γ.set i (.own ds)) := by
  have g := Gr.newO (o := h) o.g.s hp
  have o2 := o.grow g
  have h0 : H0 p = none := o.g.h.free hp
  have nf : F p = none := o.g.s.free hp
  have old : ∀ (j : Nat) (es : Ow) (q : Addr), Γ[j]? = some (.own es) → σ[j]? = some (some (.ref q)) → q ≠ p := fun j es q h1 h2 => by
    obtain ⟨q', ws, a, b, _⟩ := o.ow j es h1
    rw [h2] at a
    cases a
    exact ne_of_none b hp
  refine ⟨o2.g, by simpa using o.len, fun j e h' => ?_, fun j es h' => ?_, fun j k es fs q hjk h1 h2 h3 h4 => ?_⟩
  · rcases set_get h' with ⟨rfl, q⟩ | ⟨n, q⟩
    · cases q
    · rw [List.getElem?_set_ne n]
      exact o2.fz j e q
  · rcases set_get h' with ⟨rfl, q⟩ | ⟨n, q⟩
    · cases q
      exact ⟨p, _, set_at o.len h', upd_same, nf, h0, r, ha⟩
    · rw [List.getElem?_set_ne n]
      exact o2.ow j es q
  · rcases set_get h1 with ⟨e1, x1⟩ | ⟨n1, q1⟩
    · subst e1
      rw [set_at o.len h1] at h3
      cases h3
      rcases set_get h2 with ⟨e2, _⟩ | ⟨n2, q2⟩
      · exact hjk e2
      · rw [List.getElem?_set_ne n2] at h4
        exact old k fs p q2 h4 rfl
    · rw [List.getElem?_set_ne n1] at h3
      rcases set_get h2 with ⟨e2, x2⟩ | ⟨n2, q2⟩
      · subst e2
        rw [set_at o.len h2] at h4
        cases h4
        exact old j es p q1 h3 rfl
      · rw [List.getElem?_set_ne n2] at h4
        exact o.ap j k es fs q hjk q1 q2 h3 h4
/-- an owned list changes -/
theorem Ok.upOw (o : Ok K F0 H0 F H σ Γ) {i : Nat} {p : Addr} {ds : Ow} {ws : HO} {es : Ow} (hi : Γ[i]? = some (.own ds)) (hs : σ[i]? = some (some (.ref p))) (r : RpO K F ws es) (ha : es.at p) :
    Ok K F0 H0 F (upd H p ws) σ (Γ.set i (.own es)) := by
  obtain ⟨p', vs, a, b, c, d, e, _⟩ := o.ow i ds hi
  rw [hs] at a
  cases a
  have il : i < Γ.length := (List.getElem?_eq_some_iff.mp hi).1
  refine ⟨⟨o.g.f, fun x u h => ?_, fun x u h => ?_, o.g.n⟩, by simpa using o.len, fun j e' h => ?_, fun j fs h => ?_, fun j k fs gs q hjk h1 h2 h3 h4 => ?_⟩
  · rw [upd_ne (ne_of_none h c)]
    exact o.g.s x u h
  · rw [upd_ne (ne_of_none h d)]
    exact o.g.h x u h
  · rcases set_get h with ⟨rfl, q⟩ | ⟨n, q⟩
    · cases q
    · exact o.fz j e' q
  · rcases set_get h with ⟨rfl, q⟩ | ⟨n, q⟩
    · cases q
      exact ⟨p, ws, hs, upd_same, c, d, r, ha⟩
    · obtain ⟨q', xs, a', b', c', d', e', f'⟩ := o.ow j fs q
      have nq : q' ≠ p := fun z => by
        subst z
        exact o.ap i j ds fs q' n hi q hs a'
      exact ⟨q', xs, a', by rw [upd_ne nq]; exact b', c', d', e', f'⟩
  · have back : ∀ {x : Nat} {zs : Ow}, (Γ.set i (.own es))[x]? = some (.own zs) → ∃ ys, Γ[x]? = some (.own ys) := fun {x zs} h => by
      rcases set_get h with ⟨rfl, q⟩ | ⟨n, q⟩
      · exact ⟨ds, hi⟩
      · exact ⟨zs, q⟩
    obtain ⟨y1, q1⟩ := back h1
    obtain ⟨y2, q2⟩ := back h2
    exact o.ap j k y1 y2 q hjk q1 q2 h3 h4
/-- an owned list is frozen -/
theorem Ok.freeze (o : Ok K F0 H0 F H σ Γ) {i : Nat} {ds : Ow} (hi : Γ[i]? = some (.own ds)) : ∃ F', Gr F0 H0 F' H ∧ Same F F' ∧ Ok K F0 H0 F' H σ (Γ.set i (.fz ds.toD)) ∧ ∃ p, ds.at p ∧ Rp K F' (.ref p) ds.toD := by
  obtain ⟨p, vs, a, b, c, d, e, at_⟩ := o.ow i ds hi
  have sF : Same F (upd F p vs) := same_upd c
  have g : Gr F0 H0 (upd F p vs) H := by
    refine ⟨o.g.f.trans sF, fun x u h => ?_, o.g.h, fun x h1 h2 => ?_⟩
    · by_cases hx : x = p
      · subst hx; rw [upd_same] at h; cases h; exact b
      · rw [upd_ne hx] at h; exact o.g.s x u h
    · have hx : x ≠ p := fun z => h2 (by rw [z]; exact d)
      rw [upd_ne hx]; exact o.g.n x h1 h2
  refine ⟨upd F p vs, g, sF, ⟨g, by simpa using o.len, fun j e' h => ?_, fun j fs h => ?_, fun j k fs gs q hjk h1 h2 h3 h4 => ?_⟩, p, at_, RpO.rp upd_same (e.mono sF)⟩
  · rcases set_get h with ⟨rfl, q⟩ | ⟨n, q⟩
    · cases q
      exact ⟨.ref p, a, RpO.rp upd_same (e.mono sF)⟩
    · obtain ⟨v, h1, h2⟩ := o.fz j e' q
      exact ⟨v, h1, h2.mono sF⟩
  · rcases set_get h with ⟨rfl, q⟩ | ⟨n, q⟩
    · cases q
    · obtain ⟨q', xs, a', b', c', d', e', f'⟩ := o.ow j fs q
      have nq : q' ≠ p := fun z => by
        subst z
        exact o.ap i j ds fs q' n hi q a a'
      exact ⟨q', xs, a', b', by rw [upd_ne nq]; exact c', d', e'.mono sF, f'⟩
  · rcases set_get h1 with ⟨rfl, q⟩ | ⟨n1, q1⟩
    · cases q
    · rcases set_get h2 with ⟨rfl, q⟩ | ⟨n2, q2⟩
      · cases q
      · exact o.ap j k fs gs q hjk q1 q2 h3 h4
/-- the slots of a block of its own -/
def wipeG (Γ : Gam) : List Nat → Gam
  | [] => Γ
  | v :: vs => (wipeG Γ vs).set v .no
theorem Ok.wipe (o : Ok K F0 H0 F H σ Γ) : ∀ vs : List Nat, Ok K F0 H0 F H (L2.wipe σ vs) (wipeG Γ vs)
  | [] => o
  | v :: vs => (Ok.wipe o vs).no v none
end
theorem set_set_ne {α : Type} (l : List α) {i j : Nat} (h : i ≠ j) (x y : α) : (l.set i x).set j y = (l.set j y).set i x := (List.set_comm x y h)
theorem wipe_set {σ : L2.St} {j : Nat} {x : Option V} : ∀ {vs : List Nat}, j ∈ vs → L2.wipe (σ.set j x) vs = L2.wipe σ vs
  | [], h => by cases h
  | v :: vs, h => by
    show (L2.wipe (σ.set j x) vs).set v none = (L2.wipe σ vs).set v none
    by_cases hm : j ∈ vs
    · rw [wipe_set hm]
    · rcases List.mem_cons.mp h with e | e
      · subst e
        have step : ∀ ws : List Nat, j ∉ ws → L2.wipe (σ.set j x) ws = (L2.wipe σ ws).set j x := by
          intro ws
          induction ws with
          | nil => intro _; rfl
          | cons w ws ih =>
            intro hn
            show (L2.wipe (σ.set j x) ws).set w none = ((L2.wipe σ ws).set w none).set j x
            rw [ih fun z => hn (List.mem_cons_of_mem _ z)]
            exact set_set_ne _ (fun z => hn (by rw [z]; exact List.mem_cons_self)) _ _
        rw [step vs hm, List.set_set]
      · exact absurd e hm
theorem wipe_wipe (σ : L2.St) : ∀ vs : List Nat, L2.wipe (L2.wipe σ vs) vs = L2.wipe σ vs := by
  have step : ∀ (ws vs : List Nat), (∀ w ∈ ws, w ∈ vs) → L2.wipe (L2.wipe σ ws) vs = L2.wipe σ vs := by
    intro ws
    induction ws with
    | nil => intro vs _; rfl
    | cons w ws ih =>
      intro vs h
      show L2.wipe ((L2.wipe σ ws).set w none) vs = _
      rw [wipe_set (h w List.mem_cons_self)]
      exact ih vs fun x hx => h x (List.mem_cons_of_mem _ hx)
  exact fun vs => step vs vs fun _ h => h
end DL

namespace DL
open PySem L2

/-! ### what evaluates to what -/
def Ed (K : PySem.W.Frag) (te : TE) (Γ : Gam) (d : D) : Prop := ∀ (F0 H0 F H : Hp) (σ : L2.St), Ok K F0 H0 F H σ Γ → ∀ Q : VK, (∀ v F1 H1, Gr F H F1 H1 → Rp K F1 v d → Q v H1) → te σ H Q
def Et (K : PySem.W.Frag) (tt : TT) (Γ : Gam) (b : Bool) : Prop := ∀ (F0 H0 F H : Hp) (σ : L2.St), Ok K F0 H0 F H σ Γ → ∀ Q : Bool → Hp → Prop, (∀ F1 H1, Gr F H F1 H1 → Q b H1) → tt σ H Q
def Ea (K : PySem.W.Frag) (ta : TA) (Γ : Gam) (ds : List D) : Prop := ∀ (F0 H0 F H : Hp) (σ : L2.St), Ok K F0 H0 F H σ Γ → ∀ Q : List V → Hp → Prop, (∀ vs F1 H1, Gr F H F1 H1 → RpA K F1 vs ds → Q vs H1) → ta σ H Q
def Eo (K : PySem.W.Frag) (to : TO) (Γ : Gam) (o : Option Int) : Prop := ∀ (F0 H0 F H : Hp) (σ : L2.St), Ok K F0 H0 F H σ Γ → ∀ Q : Option Int → Hp → Prop, (∀ F1 H1, Gr F H F1 H1 → Q o H1) → to σ H Q
/-- a new list that nobody else holds -/
def Ew (K : PySem.W.Frag) (te : TE) (Γ : Gam) (ds : List D) : Prop := ∀ (F0 H0 F H : Hp) (σ : L2.St), Ok K F0 H0 F H σ Γ → ∀ Q : VK, (∀ p vs F1 H1, Gr F H F1 H1 → H p = none → F1 p = none → H1 p = some (.lst vs) → RpA K F1 vs ds → Q (.ref p) H1) → te σ H Q
/-- it raises an error of the class at C -/
def Xd (K : PySem.W.Frag) (E : XK) (te : TE) (Γ : Gam) (C : Addr) : Prop := ∀ (F0 H0 F H : Hp) (σ : L2.St), Ok K F0 H0 F H σ Γ → (∀ F1 H1, Gr F H F1 H1 → E (.ref C) none H1) → ∀ Q : VK, te σ H Q
def Xa (K : PySem.W.Frag) (E : XK) (ta : TA) (Γ : Gam) (C : Addr) : Prop := ∀ (F0 H0 F H : Hp) (σ : L2.St), Ok K F0 H0 F H σ Γ → (∀ F1 H1, Gr F H F1 H1 → E (.ref C) none H1) → ∀ Q : List V → Hp → Prop, ta σ H Q
/-! by values -/
def R2D (K : PySem.W.Frag) (r : R2) (dx dy d : D) : Prop := ∀ (F H : Hp) (x y : V), Same F H → Rp K F x dx → Rp K F y dy → ∀ Q : VK, (∀ v F1 H1, Gr F H F1 H1 → Rp K F1 v d → Q v H1) → r x y H Q
def R1D (K : PySem.W.Frag) (r : V → Hp → VK → Prop) (dx d : D) : Prop := ∀ (F H : Hp) (x : V), Same F H → Rp K F x dx → ∀ Q : VK, (∀ v F1 H1, Gr F H F1 H1 → Rp K F1 v d → Q v H1) → r x H Q
def RcD (K : PySem.W.Frag) (r : List V → Hp → VK → Prop) (ds : List D) (d : D) : Prop := ∀ (F H : Hp) (xs : List V), Same F H → RpA K F xs ds → ∀ Q : VK, (∀ v F1 H1, Gr F H F1 H1 → Rp K F1 v d → Q v H1) → r xs H Q
def RmD (K : PySem.W.Frag) (r : V → List V → Hp → VK → Prop) (dx : D) (ds : List D) (d : D) : Prop := ∀ (F H : Hp) (x : V) (xs : List V), Same F H → Rp K F x dx → RpA K F xs ds → ∀ Q : VK, (∀ v F1 H1, Gr F H F1 H1 → Rp K F1 v d → Q v H1) → r x xs H Q
def RsD (K : PySem.W.Frag) (r : V → Option Int → Option Int → Hp → VK → Prop) (dx : D) (lo hi : Option Int) (d : D) : Prop := ∀ (F H : Hp) (x : V), Same F H → Rp K F x dx → ∀ Q : VK, (∀ v F1 H1, Gr F H F1 H1 → Rp K F1 v d → Q v H1) → r x lo hi H Q
section
variable {K : PySem.W.Frag} {Γ Γ' : Gam} {ta tb te tx : TE} {t u : TT} {d dx dy : D} {ds es : List D} {tas tr : TA} {E : XK}
theorem Ed.le (h : Ed K te Γ' d) (l : Le Γ Γ') : Ed K te Γ d := fun F0 H0 F H σ o Q q => h F0 H0 F H σ (o.le l) Q q
theorem ed_is {d' : D} (h : Ed K te Γ d) (e : d = d') : Ed K te Γ d' := e ▸ h
theorem et_is {b c : Bool} (h : Et K t Γ b) (e : b = c) : Et K t Γ c := e ▸ h
theorem ed_fz (i : Nat) (h : Γ[i]? = some (.fz d)) : Ed K (tVar i) Γ d := fun F0 H0 F H σ o Q q => by
  obtain ⟨v, a, b⟩ := o.fz i d h
  exact ⟨v, a, q v F H (Gr.refl o.g.s) b⟩
theorem ed_c {v : V} (h : ∀ F, Rp K F v d) : Ed K (tC v) Γ d := fun F0 H0 F H σ o Q q => q v F H (Gr.refl o.g.s) (h F)
theorem ed_int (i : Int) : Ed K (tC (.int i)) Γ (.int i) := ed_c fun F => .int i
theorem ed_bl (i : Bool) : Ed K (tC (.bl i)) Γ (.bl i) := ed_c fun F => .bl i
theorem ed_non : Ed K (tC .non) Γ .non := ed_c fun F => .non
theorem ed_str (i : Str) : Ed K (tC (.str i)) Γ (.str i) := ed_c fun F => .str i
theorem ed_ty (i : String) : Ed K (tC (.ty i)) Γ (.ty i) := ed_c fun F => .ty i
theorem ed_adr (a : Addr) : Ed K (tC (.ref a)) Γ (.adr a) := ed_c fun F => .adr a
theorem ed_op {r : R2} (ha : Ed K ta Γ dx) (hb : Ed K tb Γ dy) (hr : R2D K r dx dy d) : Ed K (tOp r ta tb) Γ d := fun F0 H0 F H σ o Q q =>
  ha F0 H0 F H σ o _ fun v F1 H1 g1 r1 => hb F0 H0 F1 H1 σ (o.grow g1) _ fun w F2 H2 g2 r2 => hr F2 H2 v w g2.s (r1.mono g2.f) r2 Q fun z F3 H3 g3 r3 => q z F3 H3 ((g1.trans g2).trans g3) r3
theorem ed_un {r : V → Hp → VK → Prop} (ha : Ed K ta Γ dx) (hr : R1D K r dx d) : Ed K (tUn r ta) Γ d := fun F0 H0 F H σ o Q q =>
  ha F0 H0 F H σ o _ fun v F1 H1 g1 r1 => hr F1 H1 v g1.s r1 Q fun z F3 H3 g3 r3 => q z F3 H3 (g1.trans g3) r3
theorem ea_nil : Ea K tNil Γ [] := fun F0 H0 F H σ o Q q => q [] F H (Gr.refl o.g.s) .nil
theorem ea_cons (ha : Ed K ta Γ d) (hb : Ea K tr Γ ds) : Ea K (tCons ta tr) Γ (d :: ds) := fun F0 H0 F H σ o Q q =>
  ha F0 H0 F H σ o _ fun v F1 H1 g1 r1 => hb F0 H0 F1 H1 σ (o.grow g1) _ fun w F2 H2 g2 r2 => q (v :: w) F2 H2 (g1.trans g2) (.cons (r1.mono g2.f) r2)
theorem ed_cb {r : List V → Hp → VK → Prop} (ha : Ea K tas Γ ds) (hr : RcD K r ds d) : Ed K (tCB r tas) Γ d := fun F0 H0 F H σ o Q q =>
  ha F0 H0 F H σ o _ fun v F1 H1 g1 r1 => hr F1 H1 v g1.s r1 Q fun z F3 H3 g3 r3 => q z F3 H3 (g1.trans g3) r3
theorem eo_none : Eo K tNoPart Γ none := fun F0 H0 F H σ o Q q => q F H (Gr.refl o.g.s)
theorem eo_some {i : Int} (h : Ed K te Γ (.int i)) : Eo K (tPart te) Γ (some i) := fun F0 H0 F H σ o Q q =>
  h F0 H0 F H σ o _ fun v F1 H1 g1 r1 => by
    cases r1
    exact ⟨i, rfl, q F1 H1 g1⟩
theorem ed_sl {r : V → Option Int → Option Int → Hp → VK → Prop} {tl th : TO} {lo hi : Option Int} (h : Ed K te Γ dx) (h1 : Eo K tl Γ lo) (h2 : Eo K th Γ hi) (hr : RsD K r dx lo hi d) : Ed K (tSl r te tl th) Γ d := fun F0 H0 F H σ o Q q =>
  h F0 H0 F H σ o _ fun v F1 H1 g1 r1 => h1 F0 H0 F1 H1 σ (o.grow g1) _ fun F2 H2 g2 => h2 F0 H0 F2 H2 σ ((o.grow g1).grow g2) _ fun F3 H3 g3 =>
    hr F3 H3 v g3.s ((r1.mono g2.f).mono g3.f) Q fun z F4 H4 g4 r4 => q z F4 H4 (((g1.trans g2).trans g3).trans g4) r4
/-- tests -/
theorem et_test {b : Bool} (h : Ed K te Γ (.bl b)) : Et K (tTest te) Γ b := fun F0 H0 F H σ o Q q => h F0 H0 F H σ o _ fun v F1 H1 g1 r1 => by
  cases r1
  exact ⟨b, rfl, q F1 H1 g1⟩
theorem et_B {b : Bool} (h : Ed K te Γ (.bl b)) : Et K (tB te) Γ b := fun F0 H0 F H σ o Q q => h F0 H0 F H σ o _ fun v F1 H1 g1 r1 => by
  cases r1
  exact ⟨b, rfl, q F1 H1 g1⟩
theorem et_and {a b : Bool} (h1 : Et K t Γ a) (h2 : a = true → Et K u Γ b) : Et K (tAnd t u) Γ (a && b) := fun F0 H0 F H σ o Q q => h1 F0 H0 F H σ o _ fun F1 H1 g1 => by
  cases a with
  | true =>
    show u σ H1 Q
    exact h2 rfl F0 H0 F1 H1 σ (o.grow g1) Q fun F2 H2 g2 => q F2 H2 (g1.trans g2)
  | false =>
    show Q false H1
    exact q F1 H1 g1
theorem et_or {a b : Bool} (h1 : Et K t Γ a) (h2 : a = false → Et K u Γ b) : Et K (tOr t u) Γ (a || b) := fun F0 H0 F H σ o Q q => h1 F0 H0 F H σ o _ fun F1 H1 g1 => by
  cases a with
  | false =>
    show u σ H1 Q
    exact h2 rfl F0 H0 F1 H1 σ (o.grow g1) Q fun F2 H2 g2 => q F2 H2 (g1.trans g2)
  | true =>
    show Q true H1
    exact q F1 H1 g1
theorem et_not {a : Bool} (h1 : Et K t Γ a) : Et K (tNot t) Γ (!a) := fun F0 H0 F H σ o Q q => h1 F0 H0 F H σ o _ fun F1 H1 g1 => q F1 H1 g1
theorem ed_andV {a b : Bool} (h1 : Ed K ta Γ (.bl a)) (h2 : a = true → Ed K tb Γ (.bl b)) : Ed K (tAndV ta tb) Γ (.bl (a && b)) := fun F0 H0 F H σ o Q q => h1 F0 H0 F H σ o _ fun v F1 H1 g1 r1 => by
  cases r1
  refine ⟨a, rfl, ?_⟩
  cases a with
  | true =>
    show tb σ H1 Q
    exact h2 rfl F0 H0 F1 H1 σ (o.grow g1) Q fun v F2 H2 g2 r2 => q v F2 H2 (g1.trans g2) r2
  | false =>
    show Q (.bl false) H1
    exact q _ F1 H1 g1 (.bl false)
theorem ed_orV {a b : Bool} (h1 : Ed K ta Γ (.bl a)) (h2 : a = false → Ed K tb Γ (.bl b)) : Ed K (tOrV ta tb) Γ (.bl (a || b)) := fun F0 H0 F H σ o Q q => h1 F0 H0 F H σ o _ fun v F1 H1 g1 r1 => by
  cases r1
  refine ⟨a, rfl, ?_⟩
  cases a with
  | false =>
    show tb σ H1 Q
    exact h2 rfl F0 H0 F1 H1 σ (o.grow g1) Q fun v F2 H2 g2 r2 => q v F2 H2 (g1.trans g2) r2
  | true =>
    show Q (.bl true) H1
    exact q _ F1 H1 g1 (.bl true)
theorem ed_notV {a : Bool} (h1 : Ed K ta Γ (.bl a)) : Ed K (tNotV ta) Γ (.bl (!a)) := fun F0 H0 F H σ o Q q => h1 F0 H0 F H σ o _ fun v F1 H1 g1 r1 => by
  cases r1
  exact ⟨a, rfl, q _ F1 H1 g1 (.bl _)⟩
theorem et_orT (h : Et K t Γ true) : Et K (tOr t u) Γ true := et_or (b := false) h fun z => nomatch z
theorem et_orF {b : Bool} (h : Et K t Γ false) (h2 : Et K u Γ b) : Et K (tOr t u) Γ b := et_or h fun _ => h2
theorem et_andT {b : Bool} (h : Et K t Γ true) (h2 : Et K u Γ b) : Et K (tAnd t u) Γ b := et_and h fun _ => h2
theorem et_andF (h : Et K t Γ false) : Et K (tAnd t u) Γ false := et_and (b := false) h fun z => nomatch z
theorem ed_orT (h : Ed K ta Γ (.bl true)) : Ed K (tOrV ta tb) Γ (.bl true) := ed_orV (b := false) h fun z => nomatch z
theorem ed_orF {b : Bool} (h : Ed K ta Γ (.bl false)) (h2 : Ed K tb Γ (.bl b)) : Ed K (tOrV ta tb) Γ (.bl b) := ed_orV h fun _ => h2
theorem ed_andT {b : Bool} (h : Ed K ta Γ (.bl true)) (h2 : Ed K tb Γ (.bl b)) : Ed K (tAndV ta tb) Γ (.bl b) := ed_andV h fun _ => h2
theorem ed_andF (h : Ed K ta Γ (.bl false)) : Ed K (tAndV ta tb) Γ (.bl false) := ed_andV (b := false) h fun z => nomatch z
theorem et_nF (h : Et K t Γ true) : Et K (tNot t) Γ false := et_not h
theorem et_nT (h : Et K t Γ false) : Et K (tNot t) Γ true := et_not h
theorem ed_if {b : Bool} (h : Et K t Γ b) (h1 : b = true → Ed K ta Γ d) (h2 : b = false → Ed K tb Γ d) : Ed K (tIf t ta tb) Γ d := fun F0 H0 F H σ o Q q => h F0 H0 F H σ o _ fun F1 H1 g1 => by
  cases b with
  | true =>
    show ta σ H1 Q
    exact h1 rfl F0 H0 F1 H1 σ (o.grow g1) Q fun v F2 H2 g2 r2 => q v F2 H2 (g1.trans g2) r2
  | false =>
    show tb σ H1 Q
    exact h2 rfl F0 H0 F1 H1 σ (o.grow g1) Q fun v F2 H2 g2 r2 => q v F2 H2 (g1.trans g2) r2
theorem ed_chain {r r' : R2} {tc : TE} {dz : D} {a b : Bool} (ha : Ed K ta Γ dx) (hb : Ed K tb Γ dy) (h1 : R2D K r dx dy (.bl a)) (h2 : a = true → Ed K tc Γ dz ∧ R2D K r' dy dz (.bl b)) : Ed K (tChain r r' ta tb tc) Γ (.bl (a && b)) := fun F0 H0 F H σ o Q q =>
  ha F0 H0 F H σ o _ fun v F1 H1 g1 r1 => hb F0 H0 F1 H1 σ (o.grow g1) _ fun w F2 H2 g2 r2 => h1 F2 H2 v w g2.s (r1.mono g2.f) r2 _ fun z F3 H3 g3 r3 => by
    cases r3
    refine ⟨a, rfl, ?_⟩
    cases a with
    | true =>
      show tc σ H3 _
      obtain ⟨hc, h3⟩ := h2 rfl
      exact hc F0 H0 F3 H3 σ (((o.grow g1).grow g2).grow g3) _ fun y F4 H4 g4 r4 => h3 F4 H4 w y g4.s ((r2.mono g3.f).mono g4.f) r4 Q fun z F5 H5 g5 r5 => q z F5 H5 ((((g1.trans g2).trans g3).trans g4).trans g5) r5
    | false =>
      show Q (.bl false) H3
      exact q _ F3 H3 ((g1.trans g2).trans g3) (.bl false)
/-- displays -/
theorem ed_tup (h : Ea K tas Γ ds) (hl : ds.length ≤ 100000 := by exact Nat.le_of_ble_eq_true rfl) : Ed K (tTup tas) Γ (.tup ds) := fun F0 H0 F H σ o Q q => h F0 H0 F H σ o _ fun vs F1 H1 g1 r1 =>
  ⟨by rw [r1.len]; exact Nat.le_trans hl (by decide), fun p hp => by
    have g2 := Gr.new (o := .tup vs) g1.s hp
    exact q _ _ _ (g1.trans g2) (.tup (.inl (.inl upd_same)) (r1.mono g2.f))⟩
theorem ew_lst (h : Ea K tas Γ ds) (hl : ds.length ≤ 100000 := by exact Nat.le_of_ble_eq_true rfl) : Ew K (tLst tas) Γ ds := fun F0 H0 F H σ o Q q => h F0 H0 F H σ o _ fun vs F1 H1 g1 r1 =>
  ⟨by rw [r1.len]; exact Nat.le_trans hl (by decide), fun p hp => by
    have g2 := Gr.newO (o := .lst vs) g1.s hp
    exact q p vs F1 _ (g1.trans g2) (g1.h.free hp) (g1.s.free hp) upd_same r1⟩
/-- a new list frozen -/
theorem ed_ow (h : Ew K te Γ ds) : Ed K te Γ (.lst ds) := fun F0 H0 F H σ o Q q => h F0 H0 F H σ o _ fun p vs F1 H1 g1 hp hf h1 r1 => by
  have sF : Same F1 (upd F1 p (.lst vs)) := same_upd hf
  have g : Gr F H (upd F1 p (.lst vs)) H1 := ⟨g1.f.trans sF, fun x y e => by
    by_cases hx : x = p
    · subst hx; rw [upd_same] at e; cases e; exact h1
    · rw [upd_ne hx] at e; exact g1.s x y e, g1.h, fun x a b => by
    have hx : x ≠ p := fun z => b (by rw [z]; exact hp)
    rw [upd_ne hx]; exact g1.n x a b⟩
  exact q _ _ _ g (.lst upd_same (r1.mono sF))
theorem ed_dct : Ed K tDNewK Γ .dct := fun F0 H0 F H σ o Q q => fun p hp => by
  have g := Gr.new (o := .dK []) o.g.s hp
  exact q _ _ _ g (.dct upd_same)
theorem ed_lst (h : Ea K tas Γ ds) (hl : ds.length ≤ 100000 := by exact Nat.le_of_ble_eq_true rfl) : Ed K (tLst tas) Γ (.lst ds) := ed_ow (ew_lst h hl)
end

/-! ### statements -/
/-- what is frozen, but for the lists that stood already -/
noncomputable def fr (Hs F : Hp) : Hp := fun a => @ite (Option HO) (Hs a ≠ none ∧ ∃ xs, F a = some (.lst xs)) (Classical.propDecidable _) none (F a)
theorem fr_sub (Hs F : Hp) : Same (fr Hs F) F := fun a o h => by
  unfold fr at h
  split at h
  · cases h
  · exact h
theorem fr_new {Hs F : Hp} {a : Addr} {o : HO} (h : Hs a = none) (hf : F a = some o) : fr Hs F a = some o := by
  unfold fr
  rw [if_neg (fun z => z.1 h)]
  exact hf
theorem fr_oth {Hs F : Hp} {a : Addr} {o : HO} (hf : F a = some o) (h : ∀ xs, o ≠ .lst xs) : fr Hs F a = some o := by
  unfold fr
  rw [if_neg (fun z => by obtain ⟨_, xs, e⟩ := z; rw [hf] at e; exact h xs (Option.some.inj e))]
  exact hf
theorem fr_mono {Hs F F' : Hp} (e : Same F F') : Same (fr Hs F) (fr Hs F') := fun a o h => by
  have hf := fr_sub Hs F a o h
  unfold fr at h ⊢
  split at h
  · cases h
  · rename_i z
    rw [if_neg (fun y => z ⟨y.1, by obtain ⟨_, xs, q⟩ := y; rw [e a o hf] at q; exact ⟨xs, by rw [hf]; exact q⟩⟩)]
    exact e a o hf
theorem fr_weak {Hs Hs' F : Hp} (e : Same Hs Hs') : Same (fr Hs' F) (fr Hs F) := fun a o h => by
  have hf := fr_sub Hs' F a o h
  by_cases hx : ∃ xs, F a = some (.lst xs)
  · obtain ⟨xs, hx⟩ := hx
    cases hs : Hs a with
    | none => exact fr_new hs hf
    | some u =>
      unfold fr at h
      rw [if_pos ⟨(by rw [e a u hs]; exact fun z => (nomatch z)), xs, hx⟩] at h
      cases h
  · exact fr_oth hf fun xs q => hx ⟨xs, by rw [hf, q]⟩
inductive Oc where
  | nx (Γ : Gam) | rt (d : D) | lp (Γ : Gam) | ex (C : Addr) | rw (ds : List D) | rn (d : D)
def Fin (K : PySem.W.Frag) (E : XK) (De : Ends) (F0 H0 Fs : Hp) : Oc → Prop
  | .nx Γ => ∀ F H σ, Same Fs F → Ok K F0 H0 F H σ Γ → De.nx σ H
  | .lp Γ => (∀ F H σ, Same Fs F → Ok K F0 H0 F H σ Γ → De.nx σ H) ∧ (∀ F H σ, Same Fs F → Ok K F0 H0 F H σ Γ → De.ct σ H)
  | .rt d => ∀ v F H, Gr F0 H0 F H → Rp K F v d → De.rt v H
  | .ex C => ∀ F H, Gr F0 H0 F H → E (.ref C) none H
  | .rw ds => ∀ p vs F H, Gr F0 H0 F H → H0 p = none → F p = none → H p = some (.lst vs) → RpA K F vs ds → De.rt (.ref p) H
  | .rn d => ∀ v F H, Gr F0 H0 F H → Rp K (fr H0 F) v d → De.rt v H
/-- the end leaves the loop or the block -/
def Oc.out : Oc → Bool
  | .rt _ | .ex _ | .rw _ | .rn _ => true
  | _ => false
theorem Fin.mono {K : PySem.W.Frag} {E : XK} {De : Ends} {F0 H0 Fs Fs' : Hp} {o : Oc} (h : Fin K E De F0 H0 Fs o) (e : Same Fs Fs') : Fin K E De F0 H0 Fs' o := by
  cases o with
  | nx Γ => exact fun F H σ a b => h F H σ (e.trans a) b
  | lp Γ => exact ⟨fun F H σ a b => h.1 F H σ (e.trans a) b, fun F H σ a b => h.2 F H σ (e.trans a) b⟩
  | rt d => exact h
  | ex C => exact h
  | rw ds => exact h
  | rn d => exact h
theorem Fin.out {K : PySem.W.Frag} {E : XK} {De De' : Ends} {F0 H0 Fs Fs' : Hp} {o : Oc} (h : Fin K E De F0 H0 Fs o) (ho : o.out = true) (e : De'.rt = De.rt) : Fin K E De' F0 H0 Fs' o := by
  cases o with
  | nx => cases ho
  | lp => cases ho
  | rt d => intro v F H g r; rw [e]; exact h v F H g r
  | ex C => exact h
  | rw ds => intro p vs F H g a b c r; rw [e]; exact h p vs F H g a b c r
  | rn d => intro v F H g r; rw [e]; exact h v F H g r
def Sd (K : PySem.W.Frag) (E : XK) (ts : TS) (Γ : Gam) (o : Oc) : Prop := ∀ (F0 H0 F H : Hp) (σ : L2.St) (De : Ends), Ok K F0 H0 F H σ Γ → Fin K E De F0 H0 F o → ts De σ H
/-- a target takes a value -/
def Eg (K : PySem.W.Frag) (g : TG) (js : List Nat) (d : D) (Γ Γ' : Gam) : Prop := ∀ (F0 H0 F H : Hp) (σ : L2.St) (v : V), Ok K F0 H0 F H σ Γ → Rp K F v d → ∀ Q : L2.St → Hp → Prop,
  (∀ σ', Ok K F0 H0 F H σ' Γ' → (∀ vs : List Nat, (∀ j ∈ js, j ∈ vs) → L2.wipe σ' vs = L2.wipe σ vs) → Q σ' H) → g v σ H Q
def Egs (K : PySem.W.Frag) (g : TGs) (js : List Nat) (ds : List D) (Γ Γ' : Gam) : Prop := ∀ (F0 H0 F H : Hp) (σ : L2.St) (vs : List V), Ok K F0 H0 F H σ Γ → RpA K F vs ds → ∀ Q : L2.St → Hp → Prop,
  (∀ σ', Ok K F0 H0 F H σ' Γ' → (∀ vs : List Nat, (∀ j ∈ js, j ∈ vs) → L2.wipe σ' vs = L2.wipe σ vs) → Q σ' H) → g vs σ H Q
section
variable {K : PySem.W.Frag} {E : XK} {Γ Γ' Γ1 Γ2 : Gam} {ta tb te tx : TE} {t u : TT} {d dx dy : D} {ds es : List D} {tas tr : TA} {ts tu : TS} {o : Oc} {g : TG} {gs : TGs} {js ks : List Nat} {C : Addr}
theorem eg_name (i : Nat) : Eg K (gName i) [i] d Γ (Γ.set i (.fz d)) := fun F0 H0 F H σ v ok r Q q => q _ (ok.set r) fun vs h => wipe_set (h i List.mem_cons_self)
theorem egs_nil : Egs K gNil [] [] Γ Γ := fun F0 H0 F H σ vs ok r Q q => by
  cases r
  exact ⟨rfl, q σ ok fun _ _ => rfl⟩
theorem egs_cons (h1 : Eg K g js d Γ Γ1) (h2 : Egs K gs ks ds Γ1 Γ2) : Egs K (gCons g gs) (js ++ ks) (d :: ds) Γ Γ2 := fun F0 H0 F H σ vs ok r Q q => by
  cases r with
  | cons r1 r2 =>
    exact ⟨_, _, rfl, h1 F0 H0 F H σ _ ok r1 _ fun σ1 ok1 w1 => h2 F0 H0 F H σ1 _ ok1 r2 Q fun σ2 ok2 w2 => q σ2 ok2 fun vs h =>
      (w2 vs fun j hj => h j (List.mem_append_right _ hj)).trans (w1 vs fun j hj => h j (List.mem_append_left _ hj))⟩
theorem eg_tup {n : Nat} (h : Egs K gs js ds Γ Γ') (hn : ds.length = n) : Eg K (gTup K n gs) js (.tup ds) Γ Γ' := fun F0 H0 F H σ v ok r Q q => by
  cases r with
  | @tup a xs _ hs ha => exact ⟨a, xs, rfl, sqt_mono ok.g.s hs, by rw [ha.len]; exact hn, h F0 H0 F H σ xs ok ha Q q⟩
theorem eg_lst {n : Nat} (h : Egs K gs js ds Γ Γ') (hn : ds.length = n) : Eg K (gLst K n gs) js (.lst ds) Γ Γ' := fun F0 H0 F H σ v ok r Q q => by
  cases r with
  | @lst a xs _ hs ha => exact ⟨a, xs, rfl, .inl (.inl (ok.g.s _ _ hs)), by rw [ha.len]; exact hn, h F0 H0 F H σ xs ok ha Q q⟩

theorem Sd.le (h : Sd K E ts Γ' o) (l : Le Γ Γ') : Sd K E ts Γ o := fun F0 H0 F H σ De ok fin => h F0 H0 F H σ De (ok.le l) fin
theorem Sd.toLp (h : Sd K E ts Γ (.nx Γ')) : Sd K E ts Γ (.lp Γ') := fun F0 H0 F H σ De ok fin => h F0 H0 F H σ De ok fin.1
theorem Sd.nxLe (h : Sd K E ts Γ (.nx Γ1)) (l : Le Γ1 Γ2) : Sd K E ts Γ (.nx Γ2) := fun F0 H0 F H σ De ok fin => h F0 H0 F H σ De ok fun F1 H1 σ1 e1 ok1 => fin F1 H1 σ1 e1 (ok1.le l)
theorem Sd.lpLe (h : Sd K E ts Γ (.lp Γ1)) (l : Le Γ1 Γ2) : Sd K E ts Γ (.lp Γ2) := fun F0 H0 F H σ De ok fin => h F0 H0 F H σ De ok ⟨fun F1 H1 σ1 e1 ok1 => fin.1 F1 H1 σ1 e1 (ok1.le l), fun F1 H1 σ1 e1 ok1 => fin.2 F1 H1 σ1 e1 (ok1.le l)⟩
theorem sd_is {o' : Oc} (h : Sd K E ts Γ o) (e : o = o') : Sd K E ts Γ o' := e ▸ h
theorem sd_next : Sd K E tNext Γ (.nx Γ) := fun F0 H0 F H σ De ok fin => fin F H σ (Same.refl F) ok
theorem sd_seq (h1 : Sd K E ts Γ (.nx Γ1)) (h2 : Sd K E tu Γ1 o) : Sd K E (tSeq ts tu) Γ o := fun F0 H0 F H σ De ok fin => h1 F0 H0 F H σ _ ok fun F1 H1 σ1 e1 ok1 => h2 F0 H0 F1 H1 σ1 De ok1 (fin.mono e1)
theorem sd_stop (h1 : Sd K E ts Γ o) (ho : o.out = true) : Sd K E (tSeq ts tu) Γ o := fun F0 H0 F H σ De ok fin => h1 F0 H0 F H σ _ ok (fin.out ho rfl)
theorem sd_if {b : Bool} (h : Et K t Γ b) (h1 : b = true → Sd K E ts Γ o) (h2 : b = false → Sd K E tu Γ o) : Sd K E (tIfS t ts tu) Γ o := fun F0 H0 F H σ De ok fin => h F0 H0 F H σ ok _ fun F1 H1 g1 => by
  cases b with
  | true => exact h1 rfl F0 H0 F1 H1 σ De (ok.grow g1) (fin.mono g1.f)
  | false => exact h2 rfl F0 H0 F1 H1 σ De (ok.grow g1) (fin.mono g1.f)
theorem sd_ifT (h : Et K t Γ true) (h1 : Sd K E ts Γ o) : Sd K E (tIfS t ts tu) Γ o := sd_if h (fun _ => h1) fun z => nomatch z
theorem sd_ifF (h : Et K t Γ false) (h1 : Sd K E tu Γ o) : Sd K E (tIfS t ts tu) Γ o := sd_if h (fun z => nomatch z) fun _ => h1
theorem sd_set (i : Nat) (h : Ed K te Γ d) : Sd K E (tAsg te (gName i)) Γ (.nx (Γ.set i (.fz d))) := fun F0 H0 F H σ De ok fin => h F0 H0 F H σ ok _ fun v F1 H1 g1 r1 => fin F1 H1 _ g1.f ((ok.grow g1).set r1)
theorem sd_asg (h : Ed K te Γ d) (hg : Eg K g js d Γ Γ') : Sd K E (tAsg te g) Γ (.nx Γ') := fun F0 H0 F H σ De ok fin => h F0 H0 F H σ ok _ fun v F1 H1 g1 r1 => hg F0 H0 F1 H1 σ v (ok.grow g1) r1 _ fun σ' ok' _ => fin F1 H1 σ' g1.f ok'
theorem sd_par {i j : Nat} {d1 d2 : D} (h : Ea K tas Γ [d1, d2]) : Sd K E (tPar i j tas) Γ (.nx ((Γ.set i (.fz d1)).set j (.fz d2))) := fun F0 H0 F H σ De ok fin => h F0 H0 F H σ ok _ fun vs F1 H1 g1 r1 => by
  cases r1 with
  | cons r1 rr =>
    cases rr with
    | cons r2 rr =>
      cases rr
      exact ⟨_, _, rfl, fin F1 H1 _ g1.f (((ok.grow g1).set r1).set r2)⟩
theorem sd_ret (h : Ed K te Γ d) : Sd K E (tRet te) Γ (.rt d) := fun F0 H0 F H σ De ok fin => h F0 H0 F H σ ok _ fun v F1 H1 g1 r1 => fin v F1 H1 (ok.g.trans g1) r1
/-- a new list that nobody else holds is handed back -/
theorem sd_retW (h : Ew K te Γ ds) : Sd K E (tRet te) Γ (.rw ds) := fun F0 H0 F H σ De ok fin => h F0 H0 F H σ ok _ fun p vs F1 H1 g1 hp hf h1 r1 => fin p vs F1 H1 (ok.g.trans g1) (ok.g.h.free hp) hf h1 r1
theorem sd_retO (i : Nat) (hi : Γ[i]? = some (.ow ds)) : Sd K E (tRet (tVar i)) Γ (.rw ds) := fun F0 H0 F H σ De ok fin => by
  obtain ⟨p, ho, a, b, c, e, r, _⟩ := ok.ow i _ hi
  cases r with
  | lst r => exact ⟨_, a, fin p _ F H ok.g e c b r⟩
theorem sd_drop (h : Ed K te Γ d) : Sd K E (tDrop te) Γ (.nx Γ) := fun F0 H0 F H σ De ok fin => h F0 H0 F H σ ok _ fun v F1 H1 g1 r1 => fin F1 H1 σ g1.f (ok.grow g1)
theorem sd_retN : Sd K E tRetN Γ (.rt .non) := fun F0 H0 F H σ De ok fin => fin _ F H ok.g .non
theorem sd_cont : Sd K E tCont Γ (.lp Γ) := fun F0 H0 F H σ De ok fin => fin.2 F H σ (Same.refl F) ok
/-- raises -/
theorem sd_retX (h : Xd K E te Γ C) : Sd K E (tRet te) Γ (.ex C) := fun F0 H0 F H σ De ok fin => h F0 H0 F H σ ok (fun F1 H1 g1 => fin F1 H1 (ok.g.trans g1)) _
theorem sd_setX (h : Xd K E te Γ C) : Sd K E (tAsg te g) Γ (.ex C) := fun F0 H0 F H σ De ok fin => h F0 H0 F H σ ok (fun F1 H1 g1 => fin F1 H1 (ok.g.trans g1)) _
theorem sd_dropX (h : Xd K E te Γ C) : Sd K E (tDrop te) Γ (.ex C) := fun F0 H0 F H σ De ok fin => h F0 H0 F H σ ok (fun F1 H1 g1 => fin F1 H1 (ok.g.trans g1)) _
theorem sd_raise : Sd K E (fun _ σ H => (fun _ H' (Q : XK) => Q (.ref C) none H') σ H fun cls d H' => E cls d H') Γ (.ex C) := fun F0 H0 F H σ De ok fin => fin F H ok.g
theorem xa_head (h : Xd K E ta Γ C) : Xa K E (tCons ta tr) Γ C := fun F0 H0 F H σ ok fin Q => h F0 H0 F H σ ok fin _
theorem xa_tail (h : Ed K ta Γ d) (hr : Xa K E tr Γ C) : Xa K E (tCons ta tr) Γ C := fun F0 H0 F H σ ok fin Q => h F0 H0 F H σ ok _ fun v F1 H1 g1 r1 => hr F0 H0 F1 H1 σ (ok.grow g1) (fun F2 H2 g2 => fin F2 H2 (g1.trans g2)) _
theorem xd_tup (h : Xa K E tas Γ C) : Xd K E (tTup tas) Γ C := fun F0 H0 F H σ ok fin Q => h F0 H0 F H σ ok fin _
theorem xd_lst (h : Xa K E tas Γ C) : Xd K E (tLst tas) Γ C := fun F0 H0 F H σ ok fin Q => h F0 H0 F H σ ok fin _
theorem xd_opL {r : R2} (h : Xd K E ta Γ C) : Xd K E (tOp r ta tb) Γ C := fun F0 H0 F H σ ok fin Q => h F0 H0 F H σ ok fin _
theorem xd_opR {r : R2} (h1 : Ed K ta Γ d) (h : Xd K E tb Γ C) : Xd K E (tOp r ta tb) Γ C := fun F0 H0 F H σ ok fin Q => h1 F0 H0 F H σ ok _ fun v F1 H1 g1 r1 => h F0 H0 F1 H1 σ (ok.grow g1) (fun F2 H2 g2 => fin F2 H2 (g1.trans g2)) _
/-- owned lists -/
theorem sd_setW (i : Nat) (h : Ew K te Γ ds) : Sd K E (tAsg te (gName i)) Γ (.nx (Γ.set i (.ow ds))) := fun F0 H0 F H σ De ok fin => h F0 H0 F H σ ok _ fun p vs F1 H1 g1 hp hf h1 r1 => by
  refine fin F1 H1 _ g1.f ?_
  have ok1 := ok.grow g1
  have h0 : H0 p = none := ok.g.h.free hp
  have old : ∀ (j : Nat) (es : Ow) (q : Addr), Γ[j]? = some (.own es) → σ[j]? = some (some (.ref q)) → q ≠ p := fun j es q a b => by
    obtain ⟨q', ws, a', b', _⟩ := ok.ow j es a
    rw [b] at a'
    cases a'
    exact ne_of_none b' hp
  refine ⟨ok1.g, by simpa using ok.len, fun j e h => ?_, fun j es h => ?_, fun j k es fs q hjk h1 h2 h3 h4 => ?_⟩
  · rcases set_get h with ⟨rfl, q⟩ | ⟨n, q⟩
    · cases q
    · rw [List.getElem?_set_ne n]
      exact ok1.fz j e q
  · rcases set_get h with ⟨rfl, q⟩ | ⟨n, q⟩
    · cases q
      exact ⟨p, _, set_at ok.len h, h1, hf, h0, .lst r1, trivial⟩
    · rw [List.getElem?_set_ne n]
      exact ok1.ow j es q
  · rcases set_get h1 with ⟨e1, x1⟩ | ⟨n1, q1⟩
    · subst e1
      rw [set_at ok.len h1] at h3
      cases h3
      rcases set_get h2 with ⟨e2, _⟩ | ⟨n2, q2⟩
      · exact hjk e2
      · rw [List.getElem?_set_ne n2] at h4
        exact old k fs p q2 h4 rfl
    · rw [List.getElem?_set_ne n1] at h3
      rcases set_get h2 with ⟨e2, x2⟩ | ⟨n2, q2⟩
      · subst e2
        rw [set_at ok.len h2] at h4
        cases h4
        exact old j es p q1 h3 rfl
      · rw [List.getElem?_set_ne n2] at h4
        exact ok.ap j k es fs q hjk q1 q2 h3 h4
theorem sd_freeze (i : Nat) {ow : Ow} (hi : Γ[i]? = some (.own ow)) (h : Sd K E ts (Γ.set i (.fz ow.toD)) o) : Sd K E ts Γ o := fun F0 H0 F H σ De ok fin => by
  obtain ⟨F', g, sf, ok', _⟩ := ok.freeze hi
  exact h F0 H0 F' H σ De ok' (fin.mono sf)
theorem tyV_list {H : Hp} {p : Addr} {vs : List V} (h : H p = some (.lst vs)) : tyV K "list" (.ref p) H := .inl ⟨rfl, vs, .inl (.inl h)⟩
theorem sd_app (i : Nat) (hi : Γ[i]? = some (.ow ds)) (h : Ed K te Γ d) (hl : ds.length < 100000) : Sd K E (tDrop (tBM K "list" rAppend (tVar i) (tCons te tNil))) Γ (.nx (Γ.set i (.ow (ds ++ [d])))) := fun F0 H0 F H σ De ok fin => by
  obtain ⟨p, ho, a, b, c, e, r, _⟩ := ok.ow i (.lst ds) hi
  obtain ⟨vs, rfl, r'⟩ : ∃ vs, ho = .lst vs ∧ RpA K F vs ds := by
    cases r with
    | lst r => exact ⟨_, rfl, r⟩
  replace r := r'
  refine ⟨.ref p, a, tyV_list b, ?_⟩
  refine h F0 H0 F H σ ok _ fun v F1 H1 g1 r1 => ?_
  obtain ⟨c1, b1⟩ := g1.out c b
  refine ⟨p, vs, v, rfl, rfl, b1, Nat.lt_of_lt_of_le (by rw [r.len]; exact hl) (by decide), ?_⟩
  exact fin F1 _ σ g1.f ((ok.grow g1).upOw hi a (.lst ((r.mono g1.f).append (.one r1))) trivial)
theorem sd_ext (i : Nat) (hi : Γ[i]? = some (.ow ds)) (h : Ed K te Γ (.lst es)) (hl : ds.length + es.length ≤ 100000) : Sd K E (tDrop (tBM K "list" rExtend (tVar i) (tCons te tNil))) Γ (.nx (Γ.set i (.ow (ds ++ es)))) := fun F0 H0 F H σ De ok fin => by
  obtain ⟨p, ho, a, b, c, e, r, _⟩ := ok.ow i (.lst ds) hi
  obtain ⟨vs, rfl, r'⟩ : ∃ vs, ho = .lst vs ∧ RpA K F vs ds := by
    cases r with
    | lst r => exact ⟨_, rfl, r⟩
  replace r := r'
  refine ⟨.ref p, a, tyV_list b, ?_⟩
  refine h F0 H0 F H σ ok _ fun v F1 H1 g1 r1 => ?_
  obtain ⟨c1, b1⟩ := g1.out c b
  cases r1 with
  | @lst q ws _ hq rq =>
    refine ⟨p, q, vs, ws, rfl, rfl, b1, g1.s _ _ hq, Nat.le_trans (by rw [r.len, rq.len]; exact hl) (by decide), ?_⟩
    exact fin F1 _ σ g1.f ((ok.grow g1).upOw hi a (.lst ((r.mono g1.f).append rq)) trivial)
/-- while -/
inductive LoopW (K : PySem.W.Frag) (E : XK) (t : TT) (ts : TS) : Nat → Gam → Oc → Prop
  | done {Γ : Gam} : Et K t Γ false → LoopW K E t ts 0 Γ (.nx Γ)
  | step {n : Nat} {Γ Γ1 : Gam} {o : Oc} : Et K t Γ true → Sd K E ts Γ (.lp Γ1) → LoopW K E t ts n Γ1 o → LoopW K E t ts (n + 1) Γ o
  | out {Γ : Gam} {o : Oc} : Et K t Γ true → Sd K E ts Γ o → o.out = true → LoopW K E t ts 1 Γ o
theorem sd_while {n : Nat} (h : LoopW K E t ts n Γ o) : Sd K E (tWhile t ts) Γ o := fun F0 H0 F H σ De ok fin =>
  ⟨fun m σ H => ∃ Γ F', LoopW K E t ts m Γ o ∧ Same F F' ∧ Ok K F0 H0 F' H σ Γ, ⟨n, Γ, F, h, Same.refl F, ok⟩, fun m σ1 H1 ⟨Γ1, F1, l, s1, ok1⟩ => by
    cases l with
    | done ht => exact ht F0 H0 F1 H1 σ1 ok1 _ fun F2 H2 g2 => fin F2 H2 σ1 (s1.trans g2.f) (ok1.grow g2)
    | @step k _ Γ2 _ ht hs hl =>
      refine ht F0 H0 F1 H1 σ1 ok1 _ fun F2 H2 g2 => ?_
      refine ⟨fun σ H => ∃ F', Same F F' ∧ Ok K F0 H0 F' H σ Γ2, fun σ' H' ⟨F', s', ok'⟩ => ⟨k, Nat.lt_succ_self k, Γ2, F', hl, s', ok'⟩, ?_⟩
      exact hs F0 H0 F2 H2 σ1 _ (ok1.grow g2) ⟨fun F3 H3 σ3 e3 ok3 => ⟨F3, (s1.trans g2.f).trans e3, ok3⟩, fun F3 H3 σ3 e3 ok3 => ⟨F3, (s1.trans g2.f).trans e3, ok3⟩⟩
    | out ht hs ho =>
      refine ht F0 H0 F1 H1 σ1 ok1 _ fun F2 H2 g2 => ?_
      exact ⟨fun _ _ => False, fun _ _ z => z.elim, hs F0 H0 F2 H2 σ1 _ (ok1.grow g2) (fin.out ho rfl)⟩⟩
/-- what a for walks -/
structure Wk (K : PySem.W.Frag) (J : It) (F : Hp) (ds : List D) : Prop where
  go : ∀ i F2 H2, Same F F2 → Same F2 H2 → i < ds.length → J.go i H2
  st : ∀ F2 H2, Same F F2 → Same F2 H2 → J.stop ds.length H2
  yl : ∀ i x F2 H2 H3, Same F F2 → Same F2 H2 → i < ds.length → J.yld i H2 x H3 → ∃ F3 d, Gr F2 H2 F3 H3 ∧ ds[i]? = some d ∧ Rp K F3 x d
def Ei (K : PySem.W.Frag) (wi : TI) (Γ : Gam) (ds : List D) : Prop := ∀ (F0 H0 F H : Hp) (σ : L2.St), Ok K F0 H0 F H σ Γ → ∀ R : It → Hp → Prop, (∀ J F1 H1, Gr F H F1 H1 → Wk K J F1 ds → R J H1) → wi σ H R
theorem Wk.mono {J : It} {F F' : Hp} (w : Wk K J F ds) (e : Same F F') : Wk K J F' ds :=
  ⟨fun i F2 H2 a b c => w.go i F2 H2 (e.trans a) b c, fun F2 H2 a b => w.st F2 H2 (e.trans a) b, fun i x F2 H2 H3 a b c d => w.yl i x F2 H2 H3 (e.trans a) b c d⟩
inductive LoopF (K : PySem.W.Frag) (E : XK) (g : TG) (ts : TS) : List D → Gam → Oc → Prop
  | done {Γ : Gam} : LoopF K E g ts [] Γ (.nx Γ)
  | step {Γ Γ1 Γ2 : Gam} {js : List Nat} {d : D} {ds : List D} {o : Oc} : Eg K g js d Γ Γ1 → Sd K E ts Γ1 (.lp Γ2) → LoopF K E g ts ds Γ2 o → LoopF K E g ts (d :: ds) Γ o
  | out {Γ Γ1 : Gam} {js : List Nat} {d : D} {ds : List D} {o : Oc} : Eg K g js d Γ Γ1 → Sd K E ts Γ1 o → o.out = true → LoopF K E g ts (d :: ds) Γ o
  | le {Γ Γ1 : Gam} {ds : List D} {o : Oc} : Le Γ Γ1 → LoopF K E g ts ds Γ1 o → LoopF K E g ts ds Γ o
theorem LoopF.turn {F0 H0 F H : Hp} {σ : L2.St} {o : Oc} {ds : List D} {Γ : Gam} (l : LoopF K E g ts ds Γ o) : Ok K F0 H0 F H σ Γ →
    (ds = [] ∧ ∃ Γ1, o = .nx Γ1 ∧ Ok K F0 H0 F H σ Γ1) ∨ (∃ d r Γ0 Γ1 Γ2 js, ds = d :: r ∧ Ok K F0 H0 F H σ Γ0 ∧ Eg K g js d Γ0 Γ1 ∧ Sd K E ts Γ1 (.lp Γ2) ∧ LoopF K E g ts r Γ2 o) ∨ (∃ d r Γ0 Γ1 js, ds = d :: r ∧ Ok K F0 H0 F H σ Γ0 ∧ Eg K g js d Γ0 Γ1 ∧ Sd K E ts Γ1 o ∧ o.out = true) := by
  induction l with
  | done => exact fun ok => .inl ⟨rfl, _, rfl, ok⟩
  | step a b c _ => exact fun ok => .inr (.inl ⟨_, _, _, _, _, _, rfl, ok, a, b, c⟩)
  | out a b c => exact fun ok => .inr (.inr ⟨_, _, _, _, _, rfl, ok, a, b, c⟩)
  | le l _ ih => exact fun ok => ih (ok.le l)
theorem loopF_same {Pd : D → Prop} (h : ∀ x, Pd x → ∃ js Γ1, Eg K g js x Γ Γ1 ∧ Sd K E ts Γ1 (.lp Γ)) : ∀ ds : List D, (∀ x ∈ ds, Pd x) → LoopF K E g ts ds Γ (.nx Γ)
  | [], _ => .done
  | d :: ds, hd => by
    obtain ⟨js, Γ1, a, b⟩ := h d (hd d List.mem_cons_self)
    exact .step a b (loopF_same h ds fun x hx => hd x (List.mem_cons_of_mem _ hx))
theorem sd_for {wi : TI} (hw : Ei K wi Γ ds) (h : LoopF K E g ts ds Γ o) : Sd K E (tFor wi g ts) Γ o := fun F0 H0 F H σ De ok fin =>
  hw F0 H0 F H σ ok _ fun J F1 H1 g1 wk =>
    ⟨fun i m σ H => ∃ Γ F, m = ds.length - i ∧ i ≤ ds.length ∧ LoopF K E g ts (ds.drop i) Γ o ∧ Same F1 F ∧ Ok K F0 H0 F H σ Γ, ⟨ds.length, Γ, F1, rfl, Nat.zero_le _, h, Same.refl _, ok.grow g1⟩, by
      rintro i m σ2 H2 ⟨Γ2, F2, rfl, hi, l, s2, ok2⟩
      have out : ∀ {d : D} {r : List D}, ds.drop i = d :: r → i < ds.length ∧ ds[i]? = some d ∧ ds.drop (i + 1) = r := fun {d r} e => by
        have hlt : i < ds.length := by
          rcases Nat.lt_or_ge i ds.length with z | z
          · exact z
          · rw [List.drop_of_length_le z] at e
            cases e
        rw [List.drop_eq_getElem_cons hlt] at e
        cases e
        exact ⟨hlt, List.getElem?_eq_getElem hlt, rfl⟩
      rcases l.turn ok2 with ⟨e, Γ3, rfl, ok3⟩ | ⟨d, r, Γ0, Γ3, Γ4, js, e, ok3, hg, hs, hl⟩ | ⟨d, r, Γ0, Γ3, js, e, ok3, hg, hs, ho⟩
      · have hn : i = ds.length := by
          have z := congrArg List.length e
          rw [List.length_drop] at z
          simp only [List.length_nil] at z
          omega
        subst hn
        exact .inl ⟨wk.st F2 H2 s2 ok2.g.s, fin F2 H2 σ2 (g1.f.trans s2) ok3⟩
      · obtain ⟨hlt, hd, hr⟩ := out e
        refine .inr ⟨wk.go i F2 H2 s2 ok2.g.s hlt, fun σ H => ∃ F, Same F1 F ∧ Ok K F0 H0 F H σ Γ4, fun σ' H' ⟨F', a, b⟩ => ⟨ds.length - (i + 1), by omega, Γ4, F', rfl, by omega, by rw [hr]; exact hl, a, b⟩, fun x H3 hy => ?_⟩
        obtain ⟨F3, d', g3, hd', rx⟩ := wk.yl i x F2 H2 H3 s2 ok2.g.s hlt hy
        rw [hd] at hd'
        cases hd'
        refine hg F0 H0 F3 H3 σ2 x (ok3.grow g3) rx _ fun σ4 ok4 _ => ?_
        have base : Same F1 F3 := s2.trans g3.f
        exact hs F0 H0 F3 H3 σ4 _ ok4 ⟨fun F5 H5 σ5 e5 ok5 => ⟨F5, base.trans e5, ok5⟩, fun F5 H5 σ5 e5 ok5 => ⟨F5, base.trans e5, ok5⟩⟩
      · obtain ⟨hlt, hd, hr⟩ := out e
        refine .inr ⟨wk.go i F2 H2 s2 ok2.g.s hlt, fun _ _ => False, fun _ _ z => z.elim, fun x H3 hy => ?_⟩
        obtain ⟨F3, d', g3, hd', rx⟩ := wk.yl i x F2 H2 H3 s2 ok2.g.s hlt hy
        rw [hd] at hd'
        cases hd'
        refine hg F0 H0 F3 H3 σ2 x (ok3.grow g3) rx _ fun σ4 ok4 _ => ?_
        exact hs F0 H0 F3 H3 σ4 _ ok4 (fin.out ho rfl)⟩
end
end DL

namespace DL
open PySem PySem.Spec PyProof.Rows L2
section
variable {K : PySem.W.Frag} {E : XK} {Γ Γ' Γ1 Γ2 : Gam} {ta tb te tx tl : TE} {t u : TT} {d dx dy : D} {ds es : List D} {tas tr : TA} {ts tu : TS} {o : Oc} {g : TG} {gs : TGs} {js ks : List Nat} {C : Addr}
theorem et_yes : Et K tYes Γ true := fun F0 H0 F H σ ok Q q => q F H (Gr.refl ok.g.s)
/-! ### walks -/
theorem wk_list {F : Hp} {a : Addr} {xs : List V} (h : SqL K F a xs) (r : RpA K F xs ds) : Wk K (Itl K a) F ds where
  go := fun i F2 H2 e s hi => by
    obtain ⟨v, hv, _⟩ := r.get (List.getElem?_eq_getElem hi)
    exact ⟨xs, v, (e.trans s).seq h, hv⟩
  st := fun F2 H2 e s => ⟨xs, (e.trans s).seq h, Nat.le_of_eq r.len⟩
  yl := fun i x F2 H2 H3 e s hi y => by
    obtain ⟨rfl, y⟩ := y
    obtain ⟨d, hd, rd⟩ := r.getV (y xs ((e.trans s).seq h))
    exact ⟨F2, d, Gr.refl s, hd, rd.mono e⟩
theorem ei_list (h : Ed K tl Γ (.lst ds)) : Ei K (iList K tl) Γ ds := fun F0 H0 F H σ ok R k => h F0 H0 F H σ ok _ fun v F1 H1 g1 r1 => by
  cases r1 with
  | @lst a xs _ ha ra => exact ⟨a, rfl, ⟨xs, .inl (.inl (g1.s _ _ ha))⟩, k _ F1 H1 g1 (wk_list (.inl (.inl ha)) ra)⟩
theorem ei_scr {ns : List Int} (h : Ed K tl Γ (.scr ns)) : Ei K (iList K tl) Γ (ns.map .int) := fun F0 H0 F H σ ok R k => h F0 H0 F H σ ok _ fun v F1 H1 g1 r1 => by
  cases r1 with
  | @scr a _ ha => exact ⟨a, rfl, ⟨_, g1.s.seq ha⟩, k _ F1 H1 g1 (wk_list ha (.ofInts ns))⟩
theorem ei_tup (h : Ed K tl Γ (.tup ds)) : Ei K (iTup K tl) Γ ds := fun F0 H0 F H σ ok R k => h F0 H0 F H σ ok _ fun v F1 H1 g1 r1 => by
  cases r1 with
  | @tup a xs _ ha ra =>
    refine ⟨a, rfl, ⟨xs, sqt_mono g1.s ha⟩, k _ F1 H1 g1 ⟨fun i F2 H2 e s hi => ?_, fun F2 H2 e s => ⟨xs, sqt_mono (e.trans s) ha, Nat.le_of_eq ra.len⟩, fun i x F2 H2 H3 e s hi y => ?_⟩⟩
    · obtain ⟨v, hv, _⟩ := ra.get (List.getElem?_eq_getElem hi)
      exact ⟨xs, v, sqt_mono (e.trans s) ha, hv⟩
    · obtain ⟨rfl, y⟩ := y
      obtain ⟨d, hd, rd⟩ := ra.getV (y xs (sqt_mono (e.trans s) ha))
      exact ⟨F2, d, Gr.refl s, hd, rd.mono e⟩
def rg (lo : Int) (n : Nat) : List D := (List.range n).map fun i => .int (lo + (i : Nat))
theorem rg_len (lo : Int) (n : Nat) : (rg lo n).length = n := by simp [rg]
theorem wk_rng {F : Hp} {lo : Int} {n : Nat} : Wk K (Itr lo n) F (rg lo n) where
  go := fun i F2 H2 e s hi => by rw [rg_len] at hi; exact hi
  st := fun F2 H2 e s => Nat.le_of_eq (rg_len lo n).symm
  yl := fun i x F2 H2 H3 e s hi y => by
    obtain ⟨rfl, rfl⟩ := y
    rw [rg_len] at hi
    exact ⟨F2, .int (lo + (i : Nat)), Gr.refl s, by simp [rg, hi], .int _⟩
theorem ei_rng1 {n : Int} (h : Ea K tas Γ [.int n]) (hn : -(2 ^ 62) ≤ n ∧ n < 2 ^ 62) : Ei K (iRng1 tas) Γ (rg 0 n.toNat) := fun F0 H0 F H σ ok R k => h F0 H0 F H σ ok _ fun v F1 H1 g1 r1 => by
  have e := RpA.ints (ns := [n]) r1
  exact ⟨n, e, hn.1, hn.2, k _ F1 H1 g1 wk_rng⟩
theorem ei_rng2 {lo n : Int} (h : Ea K tas Γ [.int lo, .int n]) (hn : -(2 ^ 62) ≤ lo ∧ lo < 2 ^ 62 ∧ -(2 ^ 62) ≤ n ∧ n < 2 ^ 62) : Ei K (iRng2 tas) Γ (rg lo (n - lo).toNat) := fun F0 H0 F H σ ok R k => h F0 H0 F H σ ok _ fun v F1 H1 g1 r1 => by
  have e := RpA.ints (ns := [lo, n]) r1
  exact ⟨lo, n, e, hn, k _ F1 H1 g1 wk_rng⟩
def sgn (x : Str) : List D := x.cps.toList.map fun c => .str ⟨#[c]⟩
theorem ei_str {x : Str} (h : Ed K te Γ (.str x)) : Ei K (iStr te) Γ (sgn x) := fun F0 H0 F H σ ok R k => h F0 H0 F H σ ok _ fun v F1 H1 g1 r1 => by
  cases r1
  have hl : (sgn x).length = x.cps.size := by simp [sgn]
  refine ⟨x, rfl, k _ F1 H1 g1 ⟨fun i F2 H2 e s hi => by rw [hl] at hi; exact hi, fun F2 H2 e s => Nat.le_of_eq hl.symm, fun i y F2 H2 H3 e s hi z => ?_⟩⟩
  obtain ⟨rfl, c, hc, rfl⟩ := z
  refine ⟨F2, .str ⟨#[c]⟩, Gr.refl s, ?_, .str _⟩
  have hc' : x.cps.toList[i]? = some c := by rw [Array.getElem?_toList]; exact hc
  simp only [sgn, List.getElem?_map, hc', Option.map_some]
theorem pair_new {F2 H2 : Hp} {T : Addr} {x y : V} {d e : D} (s : Same F2 H2) (hT : H2 T = none) (rx : Rp K F2 x d) (ry : Rp K F2 y e) : ∃ F3, Gr F2 H2 F3 (upd H2 T (.tup [x, y])) ∧ Rp K F3 (.ref T) (.tup [d, e]) := by
  have g2 := Gr.new (o := .tup [x, y]) s hT
  exact ⟨_, g2, .tup (.inl (.inl upd_same)) (.cons (rx.mono g2.f) (.cons (ry.mono g2.f) .nil))⟩
def zp (ds es : List D) : List D := (ds.zip es).map fun p => .tup [p.1, p.2]
theorem wk_zip {F : Hp} {a b : Addr} {xs ys : List V} (h1 : SqL K F a xs) (r1 : RpA K F xs ds) (h2 : SqL K F b ys) (r2 : RpA K F ys es) : Wk K (Itz K a b) F (zp ds es) := by
  have hl : (zp ds es).length = min ds.length es.length := by simp [zp]
  refine ⟨fun i F2 H2 e s hi => ?_, fun F2 H2 e s => ⟨xs, ys, (e.trans s).seq h1, (e.trans s).seq h2, by rw [r1.len, r2.len, hl]; omega⟩, fun i x F2 H2 H3 e s hi y => ?_⟩
  · rw [hl] at hi
    obtain ⟨v, hv, _⟩ := r1.get (List.getElem?_eq_getElem (show i < ds.length by omega))
    obtain ⟨w, hw, _⟩ := r2.get (List.getElem?_eq_getElem (show i < es.length by omega))
    exact ⟨xs, ys, v, w, (e.trans s).seq h1, (e.trans s).seq h2, hv, hw⟩
  · obtain ⟨T, v, w, rfl, hT, rfl, k1, k2⟩ := y
    obtain ⟨d, hd, rd⟩ := r1.getV (k1 xs ((e.trans s).seq h1))
    obtain ⟨d', hd', rd'⟩ := r2.getV (k2 ys ((e.trans s).seq h2))
    obtain ⟨F3, g3, rp⟩ := pair_new s hT (rd.mono e) (rd'.mono e)
    refine ⟨F3, _, g3, ?_, rp⟩
    have z : (ds.zip es)[i]? = some (d, d') := by
      rw [List.getElem?_zip_eq_some]
      exact ⟨hd, hd'⟩
    simp only [zp, List.getElem?_map, z, Option.map_some]
theorem ei_zip (h : Ea K tas Γ [.lst ds, .lst es]) : Ei K (iZip K tas) Γ (zp ds es) := fun F0 H0 F H σ ok R k => h F0 H0 F H σ ok _ fun v F1 H1 g1 r1 => by
  cases r1 with
  | cons ra rr =>
    cases rr with
    | cons rb rr =>
      cases rr
      cases ra with
      | @lst a xs _ ha ra =>
        cases rb with
        | @lst b ys _ hb rb => exact ⟨a, b, xs, ys, rfl, .inl (.inl (g1.s _ _ ha)), .inl (.inl (g1.s _ _ hb)), k _ F1 H1 g1 (wk_zip (.inl (.inl ha)) ra (.inl (.inl hb)) rb)⟩
def en (ds : List D) : List D := (ds.zipIdx).map fun p => .tup [.int (p.2 : Nat), p.1]
theorem ei_enum (h : Ea K tas Γ [.lst ds]) : Ei K (iEnum K tas) Γ (en ds) := fun F0 H0 F H σ ok R k => h F0 H0 F H σ ok _ fun v F1 H1 g1 r1 => by
  cases r1 with
  | cons ra rr =>
    cases rr
    cases ra with
    | @lst a xs _ ha ra =>
      have hl : (en ds).length = ds.length := by simp [en]
      refine ⟨a, xs, rfl, .inl (.inl (g1.s _ _ ha)), k _ F1 H1 g1 ⟨fun i F2 H2 e s hi => ?_, fun F2 H2 e s => ⟨xs, .inl (.inl ((e.trans s) _ _ ha)), by rw [ra.len, hl]; exact Nat.le_refl _⟩, fun i x F2 H2 H3 e s hi y => ?_⟩⟩
      · rw [hl] at hi
        obtain ⟨v, hv, _⟩ := ra.get (List.getElem?_eq_getElem hi)
        exact ⟨xs, v, .inl (.inl ((e.trans s) _ _ ha)), hv⟩
      · obtain ⟨T, v, rfl, hT, rfl, k1⟩ := y
        obtain ⟨d, hd, rd⟩ := ra.getV (k1 xs (.inl (.inl ((e.trans s) _ _ ha))))
        obtain ⟨F3, g3, rp⟩ := pair_new (x := .int (i : Nat)) (d := .int (i : Nat)) s hT (.int _) (rd.mono e)
        refine ⟨F3, _, g3, ?_, rp⟩
        simp [en, List.getElem?_zipIdx, hd]
theorem ei_rev (h : Ea K tas Γ [.lst ds]) : Ei K (iRev K tas) Γ ds.reverse := fun F0 H0 F H σ ok R k => h F0 H0 F H σ ok _ fun v F1 H1 g1 r1 => by
  cases r1 with
  | cons ra rr =>
    cases rr
    cases ra with
    | @lst a xs _ ha ra =>
      have w := @walk_rev K a xs
      refine ⟨a, xs, rfl, .inl (.inl (g1.s _ _ ha)), k _ F1 H1 g1 ⟨fun i F2 H2 e s hi => w.goes i H2 (by rw [ra.len]; simpa using hi) (.inl (.inl ((e.trans s) _ _ ha))), fun F2 H2 e s => ?_, fun i x F2 H2 H3 e s hi y => ?_⟩⟩
      · have z := w.stops H2 (.inl (.inl ((e.trans s) _ _ ha)))
        rw [ra.len] at z
        rw [List.length_reverse]
        rw [ra.len]
        exact z
      · have hi' : i < xs.length := by rw [ra.len]; simpa using hi
        obtain ⟨rfl, q⟩ := w.yields i H2 x H3 hi' (.inl (.inl ((e.trans s) _ _ ha))) y
        obtain ⟨d, hd, rd⟩ := ra.getV q
        refine ⟨F2, d, Gr.refl s, ?_, rd.mono e⟩
        rw [List.getElem?_reverse (by simpa using hi)]
        rw [← ra.len]
        exact hd
/-! ### comprehensions -/
theorem ew_lc {α : Type} {wi : TI} {vs : List Nat} (xs : List α) (enc : α → D) (b : α → Bool) (f : α → D) (hw : Ei K wi Γ (xs.map enc)) (hl : xs.length ≤ 100000)
    (h : ∀ x ∈ xs, ∃ js Γ1, Eg K g js (enc x) (wipeG Γ vs) Γ1 ∧ (∀ j ∈ js, j ∈ vs) ∧ Et K t Γ1 (b x) ∧ (b x = true → Ed K te Γ1 (f x))) : Ew K (tLc wi g t te vs) Γ ((xs.filter b).map f) := fun F0 H0 F H σ ok Q q =>
  hw F0 H0 F H σ ok _ fun J F1 H1 g1 wk D hD => by
    have hDH : H D = none := g1.h.free hD
    have hDF : F1 D = none := g1.s.free hD
    have set : ∀ {F' H' : Hp} {ws : List V}, Gr F H F' H' → F' D = none → Gr F H F' (upd H' D (.lst ws)) := fun {F' H' ws} g hf =>
      ⟨g.f, fun x y e => by rw [upd_ne (ne_of_none e hf)]; exact g.s x y e, fun x y e => by rw [upd_ne (ne_of_none e hDH)]; exact g.h x y e, g.n⟩
    let St := fun (i : Nat) (H' : Hp) => ∃ F' acc, i ≤ xs.length ∧ Same F1 F' ∧ Gr F H F' H' ∧ F' D = none ∧ H' D = some (.lst acc) ∧ RpA K F' acc (((xs.take i).filter b).map f)
    refine ⟨fun i m H' => m = xs.length - i ∧ St i H', ⟨xs.length, rfl, F1, [], Nat.zero_le _, Same.refl _, set g1 hDF, hDF, upd_same, .nil⟩, ?_⟩
    rintro i m H2 ⟨rfl, F2, acc, hi, s2, g2, f2, e2, r2⟩
    have lenx : (xs.map enc).length = xs.length := List.length_map _
    by_cases hlt : i < xs.length
    · refine .inr ⟨wk.go i F2 H2 s2 g2.s (by rw [lenx]; exact hlt), St (i + 1), fun H' z => ⟨xs.length - (i + 1), by omega, rfl, z⟩, fun x H3 hy => ?_⟩
      obtain ⟨F3, d, g3, hd, rx⟩ := wk.yl i x F2 H2 H3 s2 g2.s (by rw [lenx]; exact hlt) hy
      have hx : xs[i]? = some xs[i] := List.getElem?_eq_getElem hlt
      rw [List.getElem?_map, hx] at hd
      cases hd
      obtain ⟨js, Γ1, hg, hj, ht, he⟩ := h xs[i] (List.getElem_mem hlt)
      have g03 := g2.trans g3
      have f3 : F3 D = none ∧ H3 D = some (.lst acc) := g3.out f2 e2
      refine hg F0 H0 F3 H3 _ x ((ok.grow g03).wipe vs) rx _ fun σ4 ok4 wp => ⟨(wp vs hj).trans (wipe_wipe σ vs), ?_⟩
      refine ht F0 H0 F3 H3 σ4 ok4 _ fun F4 H4 g4 => ?_
      have f4 := g4.out f3.1 f3.2
      have tk : xs.take (i + 1) = xs.take i ++ [xs[i]] := by rw [List.take_add_one, hx]; rfl
      cases hb : b xs[i] with
      | true =>
        rw [if_pos rfl]
        refine he hb F0 H0 F4 H4 σ4 (ok4.grow g4) _ fun v F5 H5 g5 r5 => ?_
        have f5 := g5.out f4.1 f4.2
        have gg := (g03.trans g4).trans g5
        refine ⟨acc, f5.2, ?_, F5, acc ++ [v], by omega, ((s2.trans g3.f).trans g4.f).trans g5.f, set gg f5.1, f5.1, upd_same, ?_⟩
        · have z := r2.len
          rw [List.length_map] at z
          have z2 := List.length_filter_le b (xs.take i)
          rw [List.length_take] at z2
          have z3 : acc.length < 100000 := by omega
          exact Nat.lt_of_lt_of_le z3 (by decide)
        · have e : ((xs.take (i + 1)).filter b).map f = ((xs.take i).filter b).map f ++ [f xs[i]] := by
            rw [tk, List.filter_append, List.map_append, List.filter_cons, if_pos hb] <;> rfl
          rw [e]
          exact (r2.mono ((g3.f.trans g4.f).trans g5.f)).append (.one r5)
      | false =>
        rw [if_neg (by decide)]
        have gg := g03.trans g4
        refine ⟨F4, acc, by omega, (s2.trans g3.f).trans g4.f, gg, f4.1, f4.2, ?_⟩
        have e : ((xs.take (i + 1)).filter b).map f = ((xs.take i).filter b).map f := by
          rw [tk, List.filter_append, List.map_append, List.filter_cons, if_neg (by rw [hb]; decide)]
          simp
        rw [e]
        exact r2.mono (g3.f.trans g4.f)
    · have e : i = xs.length := by omega
      subst e
      refine .inl ⟨by have z := wk.st F2 H2 s2 g2.s; rw [lenx] at z; exact z, ?_⟩
      rw [List.take_length] at r2
      exact q D acc F2 H2 g2 hDH f2 e2 r2
theorem filter_all {α : Type} (xs : List α) : xs.filter (fun _ => true) = xs := by simp
theorem ew_map {α : Type} {wi : TI} {vs : List Nat} (xs : List α) (enc : α → D) (f : α → D) (hw : Ei K wi Γ (xs.map enc)) (hl : xs.length ≤ 100000)
    (h : ∀ x ∈ xs, ∃ js Γ1, Eg K g js (enc x) (wipeG Γ vs) Γ1 ∧ (∀ j ∈ js, j ∈ vs) ∧ Ed K te Γ1 (f x)) : Ew K (tLc wi g tYes te vs) Γ (xs.map f) := by
  have z := ew_lc (K := K) (Γ := Γ) (g := g) (t := tYes) (te := te) (vs := vs) xs enc (fun _ => true) f hw hl fun x hx => by
    obtain ⟨js, Γ1, a, b, c⟩ := h x hx
    exact ⟨js, Γ1, a, b, et_yes, fun _ => c⟩
  rw [filter_all] at z
  exact z
theorem ed_map {α : Type} {wi : TI} {vs : List Nat} (xs : List α) (enc : α → D) (f : α → D) (hw : Ei K wi Γ (xs.map enc)) (hl : xs.length ≤ 100000)
    (h : ∀ x ∈ xs, ∃ js Γ1, Eg K g js (enc x) (wipeG Γ vs) Γ1 ∧ (∀ j ∈ js, j ∈ vs) ∧ Ed K te Γ1 (f x)) : Ed K (tLc wi g tYes te vs) Γ (.lst (xs.map f)) := ed_ow (ew_map xs enc f hw hl h)
theorem ed_lc {α : Type} {wi : TI} {vs : List Nat} (xs : List α) (enc : α → D) (b : α → Bool) (f : α → D) (hw : Ei K wi Γ (xs.map enc)) (hl : xs.length ≤ 100000)
    (h : ∀ x ∈ xs, ∃ js Γ1, Eg K g js (enc x) (wipeG Γ vs) Γ1 ∧ (∀ j ∈ js, j ∈ vs) ∧ Et K t Γ1 (b x) ∧ (b x = true → Ed K te Γ1 (f x))) : Ed K (tLc wi g t te vs) Γ (.lst ((xs.filter b).map f)) := ed_ow (ew_lc xs enc b f hw hl h)
end
/-! ### promises -/
def spR (K : PySem.W.Frag) (S : List D → D → Prop) : Sp := fun vs H Q _ => ∃ F ds d, Same F H ∧ RpA K F vs ds ∧ S ds d ∧ ∀ v F' H', Gr F H F' H' → Rp K F' v d → Q v H'
def spX (K : PySem.W.Frag) (S : List D → D → Prop) (T : List D → Addr → Prop) : Sp := fun vs H Q E => ∃ F ds, Same F H ∧ RpA K F vs ds ∧
  ((∃ d, S ds d ∧ ∀ v F' H', Gr F H F' H' → Rp K F' v d → Q v H') ∨ (∃ C, T ds C ∧ ∀ F' H', Gr F H F' H' → E (.ref C) none H'))
section
variable {K : PySem.W.Frag} {E : XK} {Γ : Gam} {d : D} {ds : List D} {tas : TA} {S : List D → D → Prop} {T : List D → Addr → Prop} {C : Addr}
theorem ed_call {E' : XK} (h : Ea K tas Γ ds) (hs : S ds d) : Ed K (tCall (spR K S) [] E' tas) Γ d := fun F0 H0 F H σ ok Q q => h F0 H0 F H σ ok _ fun vs F1 H1 g1 r1 =>
  ⟨F1, ds, d, g1.s, by rw [List.append_nil]; exact r1, hs, fun v F2 H2 g2 r2 => q v F2 H2 (g1.trans g2) r2⟩
theorem ed_callX {E' : XK} (h : Ea K tas Γ ds) (hs : S ds d) : Ed K (tCall (spX K S T) [] E' tas) Γ d := fun F0 H0 F H σ ok Q q => h F0 H0 F H σ ok _ fun vs F1 H1 g1 r1 =>
  ⟨F1, ds, g1.s, by rw [List.append_nil]; exact r1, .inl ⟨d, hs, fun v F2 H2 g2 r2 => q v F2 H2 (g1.trans g2) r2⟩⟩
theorem xd_callX (h : Ea K tas Γ ds) (hs : T ds C) : Xd K E (tCall (spX K S T) [] E tas) Γ C := fun F0 H0 F H σ ok fin Q => h F0 H0 F H σ ok _ fun vs F1 H1 g1 r1 =>
  ⟨F1, ds, g1.s, by rw [List.append_nil]; exact r1, .inr ⟨C, hs, fun F2 H2 g2 => fin F2 H2 (g1.trans g2)⟩⟩
theorem xd_callA {sp : Sp} (h : Xa K E tas Γ C) {E' : XK} : Xd K E (tCall sp [] E' tas) Γ C := fun F0 H0 F H σ ok fin Q => h F0 H0 F H σ ok fin _
end
/-- .. the result a new list that nobody else holds -/
def spW (K : PySem.W.Frag) (S : List D → List D → Prop) : Sp := fun vs H Q _ => ∃ F ds es, Same F H ∧ RpA K F vs ds ∧ S ds es ∧ ∀ p ws F' H', Gr F H F' H' → H p = none → F' p = none → H' p = some (.lst ws) → RpA K F' ws es → Q (.ref p) H'
def spXW (K : PySem.W.Frag) (S : List D → List D → Prop) (T : List D → Addr → Prop) : Sp := fun vs H Q E => ∃ F ds, Same F H ∧ RpA K F vs ds ∧
  ((∃ es, S ds es ∧ ∀ p ws F' H', Gr F H F' H' → H p = none → F' p = none → H' p = some (.lst ws) → RpA K F' ws es → Q (.ref p) H') ∨ (∃ C, T ds C ∧ ∀ F' H', Gr F H F' H' → E (.ref C) none H'))
section
variable {K : PySem.W.Frag} {E : XK} {Γ : Gam} {ds es : List D} {tas : TA} {S : List D → List D → Prop} {T : List D → Addr → Prop} {C : Addr}
theorem ew_call {E' : XK} (h : Ea K tas Γ ds) (hs : S ds es) : Ew K (tCall (spW K S) [] E' tas) Γ es := fun F0 H0 F H σ ok Q q => h F0 H0 F H σ ok _ fun vs F1 H1 g1 r1 =>
  ⟨F1, ds, es, g1.s, by rw [List.append_nil]; exact r1, hs, fun p ws F2 H2 g2 hp hf h2 r2 => q p ws F2 H2 (g1.trans g2) (g1.h.free hp) hf h2 r2⟩
theorem ew_callX {E' : XK} (h : Ea K tas Γ ds) (hs : S ds es) : Ew K (tCall (spXW K S T) [] E' tas) Γ es := fun F0 H0 F H σ ok Q q => h F0 H0 F H σ ok _ fun vs F1 H1 g1 r1 =>
  ⟨F1, ds, g1.s, by rw [List.append_nil]; exact r1, .inl ⟨es, hs, fun p ws F2 H2 g2 hp hf h2 r2 => q p ws F2 H2 (g1.trans g2) (g1.h.free hp) hf h2 r2⟩⟩
theorem xd_callXW (h : Ea K tas Γ ds) (hs : T ds C) : Xd K E (tCall (spXW K S T) [] E tas) Γ C := fun F0 H0 F H σ ok fin Q => h F0 H0 F H σ ok _ fun vs F1 H1 g1 r1 =>
  ⟨F1, ds, g1.s, by rw [List.append_nil]; exact r1, .inr ⟨C, hs, fun F2 H2 g2 => fin F2 H2 (g1.trans g2)⟩⟩
end
def startG (N : List Str) (ds : List D) : Gam := ds.map .fz ++ List.replicate (N.length - ds.length) .no
section
variable {K : PySem.W.Frag} {E : XK} {d : D} {ds : List D} {N : List Str} {F H : Hp} {vs : List V} {ts : TS} {Q : VK}
theorem ok_start (e : Same F H) (r : RpA K F vs ds) : Ok K F H F H (L2.start N vs) (startG N ds) := by
  have hl := r.len
  have noOw : ∀ (i : Nat) (es : Ow), ¬ (startG N ds)[i]? = some (.own es) := fun i es h => by
    unfold startG at h
    rw [List.getElem?_append] at h
    split at h
    · rw [List.getElem?_map] at h
      cases q : ds[i]? with
      | none => rw [q] at h; cases h
      | some x => rw [q] at h; cases h
    · rw [List.getElem?_replicate] at h
      split at h <;> cases h
  refine ⟨Gr.refl e, ?_, fun i d h => ?_, fun i es h => absurd h (noOw i es), fun i j es fs p hij h1 h2 => absurd h1 (noOw i es)⟩
  · unfold startG L2.start
    simp only [List.length_append, List.length_map, List.length_replicate, hl]
  · unfold startG at h
    rw [List.getElem?_append] at h
    split at h
    · rename_i hi
      rw [List.length_map] at hi
      rw [List.getElem?_map] at h
      cases q : ds[i]? with
      | none => rw [q] at h; cases h
      | some x =>
        rw [q] at h
        cases h
        obtain ⟨v, hv, rv⟩ := r.get q
        refine ⟨v, ?_, rv⟩
        unfold L2.start
        rw [List.getElem?_append_left (by rw [List.length_map, hl]; exact hi), List.getElem?_map, hv]
        rfl
    · rw [List.getElem?_replicate] at h
      split at h <;> cases h
theorem run_rt (h : Sd K E ts (startG N ds) (.rt d)) (e : Same F H) (r : RpA K F vs ds) (q : ∀ v F' H', Gr F H F' H' → Rp K F' v d → Q v H') : ts { nx := fun _ H' => Q .non H', rt := Q } (L2.start N vs) H :=
  h F H F H _ _ (ok_start e r) fun v F' H' g1 r1 => q v F' H' g1 r1
theorem run_rw {es : List D} (h : Sd K E ts (startG N ds) (.rw es)) (e : Same F H) (r : RpA K F vs ds) (q : ∀ p ws F' H', Gr F H F' H' → H p = none → F' p = none → H' p = some (.lst ws) → RpA K F' ws es → Q (.ref p) H') : ts { nx := fun _ H' => Q .non H', rt := Q } (L2.start N vs) H :=
  h F H F H _ _ (ok_start e r) q
theorem run_nx {Γ : Gam} (h : Sd K E ts (startG N ds) (.nx Γ)) (e : Same F H) (r : RpA K F vs ds) (q : ∀ v F' H', Gr F H F' H' → Rp K F' v .non → Q v H') : ts { nx := fun _ H' => Q .non H', rt := Q } (L2.start N vs) H :=
  h F H F H _ _ (ok_start e r) fun F' H' σ' _ ok => q _ F' H' ok.g .non
theorem run_ex {C : Addr} (h : Sd K E ts (startG N ds) (.ex C)) (e : Same F H) (r : RpA K F vs ds) (q : ∀ F' H', Gr F H F' H' → E (.ref C) none H') : ts { nx := fun _ H' => Q .non H', rt := Q } (L2.start N vs) H :=
  h F H F H _ _ (ok_start e r) q
end
section
variable {P : Program} {w : World} {K : PySem.W.Frag} {mg : Str → Option Value} {base : Heap} {x qual : Str} {st : Stmt} {f : Addr} {fd : FuncData} {N ps : List Str} {k : Nat} {S : List D → D → Prop} {T : List D → Addr → Prop}
/-- a def that returns -/
theorem fnR (F : Fun K x qual st f fd) (sc : FnScope N ps (defScope st)) (len : ∀ ds d, S ds d → ds.length = ps.length)
    (body : ∀ (cdv : Value) (A : Around) (outer : List Env) (s : Shared) (H : Hp) (E : XK), Room k (A.deeper (envOfC qual (defScope st) s.heap.objs.size f cdv)) →
      ∃ t, PSs (cxOf CX0 P w K mg base N qual (defScope st) f cdv A outer s H E).nox (defBody st) t ∧ ∀ ds d, S ds d → Sd K E0 t (startG N ds) (.rt d)) : FnOk P w K mg base CX0 (k + 1) f fd ps (spR K S) :=
  F.ok sc (fun vs H Q E h => by
    obtain ⟨F', ds, d, e, r, hs, q⟩ := h
    rw [r.len]
    exact len ds d hs) fun cdv A outer s H vs Q E hr h => by
    obtain ⟨F', ds, d, e, r, hs, q⟩ := h
    obtain ⟨t, ht, hd⟩ := body cdv A outer s H E hr
    exact ⟨t, ht, run_rt (hd ds d hs) e r q⟩
/-- a def that may raise -/
theorem fnX (F : Fun K x qual st f fd) (sc : FnScope N ps (defScope st)) (len : ∀ ds d, S ds d → ds.length = ps.length) (len2 : ∀ ds C, T ds C → ds.length = ps.length)
    (body : ∀ (cdv : Value) (A : Around) (outer : List Env) (s : Shared) (H : Hp) (E : XK), Room k (A.deeper (envOfC qual (defScope st) s.heap.objs.size f cdv)) →
      ∃ t, PSs (cxOf (L2.CX P w) P w K mg base N qual (defScope st) f cdv A outer s H E) (defBody st) t ∧ (∀ ds d, S ds d → Sd K E t (startG N ds) (.rt d)) ∧ (∀ ds C, T ds C → Sd K E t (startG N ds) (.ex C))) : FnOk P w K mg base (L2.CX P w) (k + 1) f fd ps (spX K S T) :=
  F.okX sc (fun vs H Q E h => by
    obtain ⟨F', ds, e, r, ⟨d, hs, q⟩ | ⟨C, hs, q⟩⟩ := h
    · rw [r.len]
      exact len ds d hs
    · rw [r.len]
      exact len2 ds C hs) fun cdv A outer s H vs Q E hr h => by
    obtain ⟨F', ds, e, r, h⟩ := h
    obtain ⟨t, ht, hd, hx⟩ := body cdv A outer s H E hr
    refine ⟨t, ht, ?_⟩
    rcases h with ⟨d, hs, q⟩ | ⟨C, hs, q⟩
    · exact run_rt (hd ds d hs) e r q
    · exact run_ex (hx ds C hs) e r q
end
end DL

namespace DL
open PySem PySem.Spec PyProof.Rows L2
/-! ### operators by values -/
def CBig (i j : Int) : Prop := i.natAbs.log2 + j.natAbs.log2 < 100000000
theorem CBig.ok {i j : Int} (h : CBig i j) : IntMulOk i j := by
  have b : ∀ x : Int, Builtin.Int.intBits x ≤ x.natAbs.log2 + 1 := fun x => by
    unfold Builtin.Int.intBits
    split <;> omega
  have h1 := b i
  have h2 := b j
  have h3 : i.natAbs.log2 + j.natAbs.log2 < 100000000 := h
  have e : bitsLine = 134217728 := by decide
  unfold IntMulOk
  intro z
  rw [Bool.and_eq_true] at z
  have z2 := z.2
  unfold Builtin.Int.intTooBig at z2
  have z3 := of_decide_eq_true z2
  rw [e] at z3
  omega
theorem log2_le {n a : Nat} (h : n < 2 ^ a) (ha : 0 < a) : n.log2 < a := by
  by_cases h0 : n = 0
  · subst h0; simp; exact ha
  · exact (Nat.log2_lt h0).mpr h
theorem CBig.of {i j : Int} {a b : Nat} (ha : i.natAbs < 2 ^ a) (hb : j.natAbs < 2 ^ b) (h0 : 0 < a) (h1 : 0 < b) (h : a + b ≤ 100000000) : CBig i j := by
  have x := log2_le ha h0
  have y := log2_le hb h1
  unfold CBig
  omega
def rAddA : R2 := fun x y H Q => rI0 (fun i j => .int (i + j)) x y H Q ∨ ((fun x y H Q => ∃ i j, x = .str i ∧ y = .str j ∧ i.length + j.length ≤ sizeLine ∧ Q (.str (i ++ j)) H) x y H Q ∨ rCat x y H Q)
def rMulA : R2 := fun x y H Q => rI CBig (fun i j => .int (i * j)) x y H Q ∨ rRep x y H Q
def CFd (i j : Int) : Prop := j ≠ 0 ∧ j.natAbs.log2 < 9000
def rFdA : R2 := rI CFd fun i j => .int (i.fdiv j)
def rLtA : R2 := fun x y H Q => rI0 (fun i j => .bl (decide (i < j))) x y H Q ∨ (fun x y H Q => ∃ i j, x = .str i ∧ y = .str j ∧ Q (.bl (decide (i.cps.toList < j.cps.toList))) H) x y H Q
def rLeA : R2 := fun x y H Q => rI0 (fun i j => .bl (decide (i ≤ j))) x y H Q ∨ (fun x y H Q => ∃ i j, x = .str i ∧ y = .str j ∧ Q (.bl (!decide (j.cps.toList < i.cps.toList))) H) x y H Q
section
variable {X : Cx}
theorem opAdd : OpR X (binaryOp .Add) rAddA := op_add.or (op_add_str.or op_cat)
theorem opMul : OpR X (binaryOp .Mult) rMulA := OpR.or (opI fun _ _ _ _ _ _ _ hc q => mul_int q hc.ok) op_rep
theorem opFd : OpR X (binaryOp .FloorDiv) rFdA := opI fun i j _ _ _ _ _ hc q => floordiv_int hc.1 q (.inl (PyProof.noPylong_of_log2 hc.2))
theorem opLt : OpR X (compareOp .Lt) rLtA := op_lt.or op_lt_str
theorem opLe : OpR X (compareOp .LtE) rLeA := op_le.or op_le_str
end
/-! ### plain data -/
mutual
def D.py : D → PyData
  | .non => .none
  | .bl b => .bool b
  | .int i => .int i
  | .str x => .str x
  | .lst ds => .list (D.pyA ds)
  | .tup ds => .tuple (D.pyA ds)
  | .dct => .none
  | .scr _ => .none
  | .adr _ => .none
  | .ty _ => .none
  | .ins _ _ => .none
  | .dic _ => .none
def D.pyA : List D → List PyData
  | [] => []
  | d :: ds => D.py d :: D.pyA ds
end
theorem pyA_map (ds : List D) : D.pyA ds = ds.map D.py := by
  induction ds with
  | nil => rfl
  | cons d ds ih => simp only [D.pyA, List.map_cons, ih]
inductive Pl : Nat → D → Prop
  | non {n : Nat} : Pl n .non
  | bl {n : Nat} (b : Bool) : Pl n (.bl b)
  | int {n : Nat} (i : Int) : Pl n (.int i)
  | str {n : Nat} {x : Str} (h : PyData.strOk x = true) : Pl n (.str x)
  | lst {n : Nat} {ds : List D} : (∀ d ∈ ds, Pl n d) → Pl (n + 1) (.lst ds)
  | tup {n : Nat} {ds : List D} : (∀ d ∈ ds, Pl n d) → Pl (n + 1) (.tup ds)
theorem Pl.mono {n m : Nat} {d : D} (h : Pl n d) : n ≤ m → Pl m d := by
  induction h generalizing m with
  | non => exact fun _ => .non
  | bl b => exact fun _ => .bl b
  | int i => exact fun _ => .int i
  | str h => exact fun _ => .str h
  | lst h ih =>
    intro hm
    obtain ⟨k, rfl⟩ : ∃ k, m = k + 1 := ⟨m - 1, by omega⟩
    exact .lst fun d hd => ih d hd (by omega)
  | tup h ih =>
    intro hm
    obtain ⟨k, rfl⟩ : ∃ k, m = k + 1 := ⟨m - 1, by omega⟩
    exact .tup fun d hd => ih d hd (by omega)
section
variable {K : PySem.W.Frag} {H : Hp}
theorem dp_all : ∀ {vs : List V} {ds : List D}, RpA K H vs ds → (∀ d ∈ ds, ∀ v, Rp K H v d → Dp K H v d.py) → DpAll K H vs (D.pyA ds)
  | _, _, .nil, _ => .nil
  | _, _, .cons h t, f => .cons (f _ List.mem_cons_self _ h) (dp_all t fun d hd => f d (List.mem_cons_of_mem _ hd))
theorem dp_of {n : Nat} {d : D} (h : Pl n d) : ∀ {v : V}, Rp K H v d → Dp K H v d.py := by
  induction h with
  | non => intro v r; cases r; exact .non
  | bl b => intro v r; cases r; exact .bl b
  | int i => intro v r; cases r; exact .int i
  | str h => intro v r; cases r; exact .str _
  | lst h ih =>
    intro v r
    cases r with
    | lst hs ha =>
      simp only [D.py]
      exact .lst (.inl (.inl hs)) (dp_all ha fun d hd v => ih d hd)
  | tup h ih =>
    intro v r
    cases r with
    | tup hs ha =>
      simp only [D.py]
      exact .tup hs (dp_all ha fun d hd v => ih d hd)
end
theorem canAll {ds : List D} (h : ∀ d ∈ ds, d.py.canLay0 = true) : PyData.canLayAll0 (D.pyA ds) = true := by
  induction ds with
  | nil => simp only [D.pyA, PyData.canLayAll0]
  | cons d ds ih =>
    simp only [D.pyA, PyData.canLayAll0, h d List.mem_cons_self, ih fun x hx => h x (List.mem_cons_of_mem _ hx), Bool.and_self]
theorem depAll {n : Nat} {ds : List D} (h : ∀ d ∈ ds, d.py.depth ≤ n) : PyData.depthAll (D.pyA ds) ≤ n := by
  induction ds with
  | nil => simp only [D.pyA, PyData.depthAll]; omega
  | cons d ds ih =>
    simp only [D.pyA, PyData.depthAll]
    have h1 := h d List.mem_cons_self
    have h2 := ih fun x hx => h x (List.mem_cons_of_mem _ hx)
    omega
theorem pl_can {n : Nat} {d : D} (h : Pl n d) : d.py.canLay0 = true := by
  induction h with
  | non => rfl
  | bl b => rfl
  | int i => rfl
  | str h => simpa [D.py, PyData.canLay0] using h
  | lst h ih => simp only [D.py, PyData.canLay0]; exact canAll ih
  | tup h ih => simp only [D.py, PyData.canLay0]; exact canAll ih
theorem pl_dep {n : Nat} {d : D} (h : Pl n d) : d.py.depth ≤ n + 1 := by
  induction h with
  | non => simp [D.py, PyData.depth]
  | bl b => simp [D.py, PyData.depth]
  | int i => simp [D.py, PyData.depth]
  | str h => simp [D.py, PyData.depth]
  | lst h ih => simp only [D.py, PyData.depth]; have := depAll ih; omega
  | tup h ih => simp only [D.py, PyData.depth]; have := depAll ih; omega
theorem pl_shaped {n : Nat} {d : D} (h : Pl n d) (hn : n ≤ 60) : SeqAt.shaped d.py = true := by
  unfold SeqAt.shaped
  rw [pl_can h, Bool.true_and]
  have := pl_dep h
  exact decide_eq_true (by omega)
def eqD (d e : D) : Bool := PyData.eqv d.py e.py
/-! ### what they give -/
section
variable {K : PySem.W.Frag} {d dx dy : D} {ds es : List D} {i j : Int} {x y : Str}
theorem r2_addI : R2D K rAddA (.int i) (.int j) (.int (i + j)) := fun F H v w s rv rw Q q => by
  cases rv; cases rw
  exact .inl ⟨i, j, rfl, rfl, q _ F H (Gr.refl s) (.int _)⟩
theorem r2_addS (h : x.length + y.length ≤ 100000) : R2D K rAddA (.str x) (.str y) (.str (x ++ y)) := fun F H v w s rv rw Q q => by
  cases rv; cases rw
  exact .inr (.inl ⟨x, y, rfl, rfl, Nat.le_trans h (by decide), q _ F H (Gr.refl s) (.str _)⟩)
theorem r2_addL (h : ds.length + es.length ≤ 100000) : R2D K rAddA (.lst ds) (.lst es) (.lst (ds ++ es)) := fun F H v w s rv rw Q q => by
  cases rv with
  | @lst a xs _ ha ra =>
    cases rw with
    | @lst b ys _ hb rb =>
      refine .inr (.inr ⟨a, b, xs, ys, rfl, rfl, s _ _ ha, s _ _ hb, Nat.le_trans (by rw [ra.len, rb.len]; exact h) (by decide), fun p hp => ?_⟩)
      have g := Gr.new (o := .lst (xs ++ ys)) s hp
      exact q _ _ _ g (.lst upd_same ((ra.append rb).mono g.f))
theorem r2_subI : R2D K (rI0 fun i j => .int (i - j)) (.int i) (.int j) (.int (i - j)) := fun F H v w s rv rw Q q => by
  cases rv; cases rw
  exact ⟨i, j, rfl, rfl, q _ F H (Gr.refl s) (.int _)⟩
theorem r2_mulI (h : CBig i j) : R2D K rMulA (.int i) (.int j) (.int (i * j)) := fun F H v w s rv rw Q q => by
  cases rv; cases rw
  exact .inl ⟨i, j, rfl, rfl, h, q _ F H (Gr.refl s) (.int _)⟩
theorem r2_mulL (h : ds.length * i.toNat ≤ 100000) (hi : -(2 ^ 63) ≤ i ∧ i < 2 ^ 63) : R2D K rMulA (.lst ds) (.int i) (.lst (List.replicate i.toNat ds).flatten) := fun F H v w s rv rw Q q => by
  cases rw
  cases rv with
  | @lst a xs _ ha ra =>
    refine .inr ⟨a, i, xs, rfl, rfl, s _ _ ha, hi.1, hi.2, Nat.le_trans (by rw [ra.len]; exact h) (by decide), fun p hp => ?_⟩
    have g := Gr.new (o := .lst (List.replicate i.toNat xs).flatten) s hp
    exact q _ _ _ g (.lst upd_same ((ra.rep _).mono g.f))
theorem r2_mod (h : 0 < j) : R2D K (rI (fun _ j => 0 < j) fun i j => .int (i % j)) (.int i) (.int j) (.int (i % j)) := fun F H v w s rv rw Q q => by
  cases rv; cases rw
  exact ⟨i, j, rfl, rfl, h, q _ F H (Gr.refl s) (.int _)⟩
theorem r2_fd (h : CFd i j) : R2D K rFdA (.int i) (.int j) (.int (i.fdiv j)) := fun F H v w s rv rw Q q => by
  cases rv; cases rw
  exact ⟨i, j, rfl, rfl, h, q _ F H (Gr.refl s) (.int _)⟩
theorem r2_fdP (h : 0 < j) (hj : j.natAbs.log2 < 9000 := by decide) : R2D K rFdA (.int i) (.int j) (.int (i / j)) := by
  have e : i.fdiv j = i / j := Int.fdiv_eq_ediv_of_nonneg i (by omega)
  rw [← e]
  exact r2_fd ⟨by omega, hj⟩
theorem r2_pow (h : CPow i j) : R2D K (rI CPow fun i j => .int (i ^ j.toNat)) (.int i) (.int j) (.int (i ^ j.toNat)) := fun F H v w s rv rw Q q => by
  cases rv; cases rw
  exact ⟨i, j, rfl, rfl, h, q _ F H (Gr.refl s) (.int _)⟩
theorem r2_ltI : R2D K rLtA (.int i) (.int j) (.bl (decide (i < j))) := fun F H v w s rv rw Q q => by
  cases rv; cases rw
  exact .inl ⟨i, j, rfl, rfl, q _ F H (Gr.refl s) (.bl _)⟩
theorem r2_leI : R2D K rLeA (.int i) (.int j) (.bl (decide (i ≤ j))) := fun F H v w s rv rw Q q => by
  cases rv; cases rw
  exact .inl ⟨i, j, rfl, rfl, q _ F H (Gr.refl s) (.bl _)⟩
theorem r2_ltS : R2D K rLtA (.str x) (.str y) (.bl (decide (x.cps.toList < y.cps.toList))) := fun F H v w s rv rw Q q => by
  cases rv; cases rw
  exact .inr ⟨x, y, rfl, rfl, q _ F H (Gr.refl s) (.bl _)⟩
theorem r2_leS : R2D K rLeA (.str x) (.str y) (.bl (!decide (y.cps.toList < x.cps.toList))) := fun F H v w s rv rw Q q => by
  cases rv; cases rw
  exact .inr ⟨x, y, rfl, rfl, q _ F H (Gr.refl s) (.bl _)⟩
theorem r2_gt : R2D K (rI0 fun i j => .bl (decide (j < i))) (.int i) (.int j) (.bl (decide (j < i))) := fun F H v w s rv rw Q q => by
  cases rv; cases rw
  exact ⟨i, j, rfl, rfl, q _ F H (Gr.refl s) (.bl _)⟩
theorem r2_ge : R2D K (rI0 fun i j => .bl (decide (j ≤ i))) (.int i) (.int j) (.bl (decide (j ≤ i))) := fun F H v w s rv rw Q q => by
  cases rv; cases rw
  exact ⟨i, j, rfl, rfl, q _ F H (Gr.refl s) (.bl _)⟩
theorem r2_eq {n m : Nat} (h1 : Pl n dx) (h2 : Pl m dy) (hn : n ≤ 60 := by decide) (hm : m ≤ 60 := by decide) : R2D K (rEqD K) dx dy (.bl (eqD dx dy)) := fun F H v w s rv rw Q q =>
  ⟨_, _, dp_of h1 (rv.mono s), dp_of h2 (rw.mono s), pl_shaped h1 hn, pl_shaped h2 hm, q _ F H (Gr.refl s) (.bl _)⟩
theorem r2_ne {n m : Nat} (h1 : Pl n dx) (h2 : Pl m dy) (hn : n ≤ 60 := by decide) (hm : m ≤ 60 := by decide) : R2D K (rNeD K) dx dy (.bl (!eqD dx dy)) := fun F H v w s rv rw Q q =>
  ⟨_, _, dp_of h1 (rv.mono s), dp_of h2 (rw.mono s), pl_shaped h1 hn, pl_shaped h2 hm, q _ F H (Gr.refl s) (.bl _)⟩
theorem r2_eqI : R2D K (rEqD K) (.int i) (.int j) (.bl (decide (i = j))) := r2_eq (.int (n := 0) i) (.int (n := 0) j)
theorem r2_neI : R2D K (rNeD K) (.int i) (.int j) (.bl (!decide (i = j))) := r2_ne (.int (n := 0) i) (.int (n := 0) j)
theorem ixn_map {α β : Type} {xs : List α} {ys : List β} (h : xs.length = ys.length) (i : Int) : ixN xs.length i = ixN ys.length i := by rw [h]
theorem atI_rp {F : Hp} {xs : List V} (r : RpA K F xs ds) (h : atI ds i = some d) : ∃ v, atI xs i = some v ∧ Rp K F v d := by
  unfold atI at h ⊢
  rw [r.len]
  cases q : ixN ds.length i with
  | none => rw [q] at h; cases h
  | some j =>
    rw [q] at h
    exact r.get h
theorem r2_ixL (h : atI ds i = some d) : R2D K (rIx K) (.lst ds) (.int i) d := fun F H v w s rv rw Q q => by
  cases rw
  cases rv with
  | @lst a xs _ ha ra =>
    obtain ⟨z, hz, rz⟩ := atI_rp ra h
    exact .inl ⟨a, xs, i, z, rfl, rfl, .inl (.inl (s _ _ ha)), hz, q _ F H (Gr.refl s) rz⟩
theorem r2_ixT (h : atI ds i = some d) : R2D K (rIx K) (.tup ds) (.int i) d := fun F H v w s rv rw Q q => by
  cases rw
  cases rv with
  | @tup a xs _ ha ra =>
    obtain ⟨z, hz, rz⟩ := atI_rp ra h
    exact .inr (.inl ⟨a, xs, i, z, rfl, rfl, sqt_mono s ha, hz, q _ F H (Gr.refl s) rz⟩)
theorem r2_ixP {ns : List Int} {n : Int} (h : atI ns i = some n) : R2D K (rIx K) (.scr ns) (.int i) (.int n) := fun F H v w s rv rw Q q => by
  cases rw
  cases rv with
  | @scr a _ ha =>
    refine .inl ⟨a, _, i, .int n, rfl, rfl, s.seq ha, ?_, q _ F H (Gr.refl s) (.int n)⟩
    unfold atI at h ⊢
    rw [List.length_map]
    cases z : ixN ns.length i with
    | none => rw [z] at h; cases h
    | some j =>
      rw [z] at h
      have h' : ns[j]? = some n := h
      simp [h']
theorem r2_ixS {c : Nat} (hz : x.length ≤ 100000) (h : atI x.cps.toList i = some c) : R2D K (rIx K) (.str x) (.int i) (.str ⟨#[c]⟩) := fun F H v w s rv rw Q q => by
  cases rv; cases rw
  exact .inr (.inr ⟨x, i, c, rfl, rfl, Nat.le_trans hz (by decide), h, q _ F H (Gr.refl s) (.str _)⟩)
theorem r2_isB {a b : Bool} : R2D K rIsB (.bl a) (.bl b) (.bl (decide (a = b))) := fun F H v w s rv rw Q q => by
  cases rv; cases rw
  exact ⟨a, b, rfl, rfl, q _ F H (Gr.refl s) (.bl _)⟩
theorem r2_notB {a b : Bool} : R2D K rNotB (.bl a) (.bl b) (.bl (!decide (a = b))) := fun F H v w s rv rw Q q => by
  cases rv; cases rw
  exact ⟨a, b, rfl, rfl, q _ F H (Gr.refl s) (.bl _)⟩
theorem r1_neg : R1D K (rU fun i => .int (-i)) (.int i) (.int (-i)) := fun F H v s rv Q q => by
  cases rv
  exact ⟨i, rfl, q _ F H (Gr.refl s) (.int _)⟩
/-! built-ins -/
theorem rc_abs : RcD K (fun xs H Q => ∃ i, xs = [.int i] ∧ Q (.int (if i < 0 then -i else i)) H) [.int i] (.int i.natAbs) := fun F H vs s r Q q => by
  have e := RpA.ints (ns := [i]) r
  refine ⟨i, e, ?_⟩
  have z : (if i < 0 then -i else i) = (i.natAbs : Int) := by split <;> omega
  rw [z]
  exact q _ F H (Gr.refl s) (.int _)
theorem rc_max2 : RcD K (fun xs H Q => ∃ i j, xs = [.int i, .int j] ∧ Q (.int (if j > i then j else i)) H) [.int i, .int j] (.int (max i j)) := fun F H vs s r Q q => by
  have e := RpA.ints (ns := [i, j]) r
  refine ⟨i, j, e, ?_⟩
  have z : (if j > i then j else i) = max i j := by split <;> omega
  rw [z]
  exact q _ F H (Gr.refl s) (.int _)
def rLenA (K : PySem.W.Frag) : List V → Hp → VK → Prop := fun xs H Q => ∃ x n, xs = [x] ∧ LenV K x H n ∧ Q (.int (n : Int)) H
theorem callLen {X : Cx} : CallR X (.builtin "len") (rLenA X.K) := call_len
theorem rc_lenL : RcD K (rLenA K) [.lst ds] (.int ds.length) := fun F H vs s r Q q => by
  cases r with
  | cons r rr =>
    cases rr
    cases r with
    | @lst a xs _ ha ra => exact ⟨.ref a, ds.length, rfl, .inl ⟨xs, .inl (.inl (s _ _ ha)), ra.len.symm⟩, q _ F H (Gr.refl s) (.int _)⟩
theorem rc_lenT : RcD K (rLenA K) [.tup ds] (.int ds.length) := fun F H vs s r Q q => by
  cases r with
  | cons r rr =>
    cases rr
    cases r with
    | @tup a xs _ ha ra => exact ⟨.ref a, ds.length, rfl, .inr ⟨xs, sqt_mono s ha, ra.len.symm⟩, q _ F H (Gr.refl s) (.int _)⟩
theorem rc_lenP {ns : List Int} : RcD K (rLenA K) [.scr ns] (.int ns.length) := fun F H vs s r Q q => by
  cases r with
  | cons r rr =>
    cases rr
    cases r with
    | @scr a _ ha => exact ⟨.ref a, ns.length, rfl, .inl ⟨_, s.seq ha, by rw [List.length_map]⟩, q _ F H (Gr.refl s) (.int _)⟩
theorem rc_lenS (h : x.length ≤ 100000) : RcD K (rLenA K) [.str x] (.int x.length) := fun F H vs s r Q q => by
  cases r with
  | cons r rr =>
    cases rr
    cases r
    exact ⟨.str x, x.length, rfl, ⟨Nat.le_trans h (by decide), rfl⟩, q _ F H (Gr.refl s) (.int _)⟩
def rIntA : List V → Hp → VK → Prop := fun xs H Q => ((∃ i, xs = [.int i] ∧ Q (.int i) H) ∨ ∃ k, xs = [.bl k] ∧ Q (.int (if k then 1 else 0)) H) ∨ (∃ a n, xs = [.str a] ∧ PySem.intText? a = some n ∧ a.length ≤ 640 ∧ Q (.int n) H)
theorem callInt {X : Cx} : CallR X (.type "int") rIntA := call_int1.or call_int_str
theorem rc_intB {b : Bool} : RcD K rIntA [.bl b] (.int (if b then 1 else 0)) := fun F H vs s r Q q => by
  have e := RpA.bls (ns := [b]) r
  exact .inl (.inr ⟨b, e, q _ F H (Gr.refl s) (.int _)⟩)
theorem rc_intS {n : Int} (h : PySem.intText? x = some n) (hl : x.length ≤ 640) : RcD K rIntA [.str x] (.int n) := fun F H vs s r Q q => by
  have e := RpA.strs (ns := [x]) r
  exact .inr ⟨x, n, e, h, hl, q _ F H (Gr.refl s) (.int _)⟩
theorem rc_all {bs : List Bool} : RcD K (rAll K) [.lst (bs.map .bl)] (.bl (bs.all id)) := fun F H vs s r Q q => by
  cases r with
  | cons r rr =>
    cases rr
    cases r with
    | @lst a xs _ ha ra =>
      have e := RpA.bls ra
      subst e
      exact ⟨a, bs, rfl, .inl (.inl (s _ _ ha)), q _ F H (Gr.refl s) (.bl _)⟩
theorem rc_sum {ns : List Int} : RcD K (rSum K) [.lst (ns.map .int)] (.int ns.sum) := fun F H vs s r Q q => by
  cases r with
  | cons r rr =>
    cases rr
    cases r with
    | @lst a xs _ ha ra =>
      have e := RpA.ints ra
      subst e
      exact ⟨a, ns, rfl, .inl (.inl (s _ _ ha)), q _ F H (Gr.refl s) (.int _)⟩
/-- the type of plain things -/
def tyD : D → Option String
  | .non => some "NoneType"
  | .bl _ => some "bool"
  | .int _ => some "int"
  | .str _ => some "str"
  | .lst _ => some "list"
  | .tup _ => some "tuple"
  | .dct => some "dict"
  | _ => none
theorem tyX_of {F H : Hp} {v : V} {T : String} (s : Same F H) (r : Rp K F v d) (h : tyD d = some T) : TyX K H v (.type T) := by
  cases r with
  | non => cases h; exact .base .non
  | bl b => cases h; exact .base (.bl b)
  | int i => cases h; exact .base (.int i)
  | str x => cases h; exact .base (.str x)
  | lst ha _ => cases h; exact .base (.lst (s _ _ ha))
  | tup ha _ =>
    cases h
    rcases ha with (ha | ⟨o, ha⟩) | ⟨o, _, _, ha, hc, _⟩
    · exact .base (.tup (s _ _ ha))
    · exact .fTuple (s _ _ ha)
    · exact .kTuple ha hc
  | dct ha => cases h; exact .base (.dK (s _ _ ha))
  | scr _ => cases h
  | adr _ => cases h
  | ty _ => cases h
  | ins _ _ => cases h
  | dic _ _ => cases h
theorem rc_isi {T U : String} {b : Bool} (h : tyD d = some T) (hb : kitB T U = some b) : RcD K (rIsi K) [d, .ty U] (.bl b) := fun F H vs s r Q q => by
  cases r with
  | cons r rr =>
    cases rr with
    | cons r2 rr =>
      cases rr
      cases r2
      exact ⟨_, _, _, _, b, rfl, .ty U, tyX_of s r h, kit_ty hb, q _ F H (Gr.refl s) (.bl b)⟩
end
end DL

namespace DL
open PySem PySem.Spec PyProof.Rows L2
/-! ### defs by name -/
structure Df (K : PySem.W.Frag) (mg : Str → Option Value) (x : Str) (ps : List Str) (st : Stmt) : Prop where
  ex : ∃ (f : Addr) (fd : FuncData), Fun K x x st f fd ∧ mg x = some (.ref f) ∧ Binds K fd ps []
structure Cl (P : Program) (w : World) (K : PySem.W.Frag) (mg : Str → Option Value) (base : Heap) (CX : CXT) (k : Nat) (x : Str) (sp : Sp) : Prop where
  ex : ∃ (f : Addr) (fd : FuncData) (ps : List Str), FnOk P w K mg base CX k f fd ps sp ∧ mg x = some (.ref f) ∧ PySem.W.keepIn K (.ref f) = true ∧ Binds K fd ps []
section
variable {P : Program} {w : World} {K : PySem.W.Frag} {mg : Str → Option Value} {base : Heap} {x : Str} {st : Stmt} {N ps : List Str} {k : Nat} {S : List D → D → Prop} {T : List D → Addr → Prop} {sp : Sp}
theorem clR (D : Df K mg x ps st) (sc : FnScope N ps (defScope st)) (len : ∀ ds d, S ds d → ds.length = ps.length)
    (body : ∀ (f : Addr) (cdv : Value) (A : Around) (outer : List Env) (s : Shared) (H : Hp) (E : XK), Room k (A.deeper (envOfC x (defScope st) s.heap.objs.size f cdv)) →
      ∃ t, PSs (cxOf CX0 P w K mg base N x (defScope st) f cdv A outer s H E).nox (defBody st) t ∧ ∀ ds d, S ds d → Sd K E0 t (startG N ds) (.rt d)) : Cl P w K mg base CX0 (k + 1) x (spR K S) := by
  obtain ⟨f, fd, F, hm, b⟩ := D.ex
  exact ⟨f, fd, ps, fnR F sc len (body f), hm, F.kp, b⟩
theorem clX (D : Df K mg x ps st) (sc : FnScope N ps (defScope st)) (len : ∀ ds d, S ds d → ds.length = ps.length) (len2 : ∀ ds C, T ds C → ds.length = ps.length)
    (body : ∀ (f : Addr) (cdv : Value) (A : Around) (outer : List Env) (s : Shared) (H : Hp) (E : XK), Room k (A.deeper (envOfC x (defScope st) s.heap.objs.size f cdv)) →
      ∃ t, PSs (cxOf (L2.CX P w) P w K mg base N x (defScope st) f cdv A outer s H E) (defBody st) t ∧ (∀ ds d, S ds d → Sd K E t (startG N ds) (.rt d)) ∧ (∀ ds C, T ds C → Sd K E t (startG N ds) (.ex C))) : Cl P w K mg base (L2.CX P w) (k + 1) x (spX K S T) := by
  obtain ⟨f, fd, F, hm, b⟩ := D.ex
  exact ⟨f, fd, ps, fnX F sc len len2 (body f), hm, F.kp, b⟩
theorem clImp {sp' : Sp} {CX : CXT} (c : Cl P w K mg base CX k x sp) (h : ∀ vs H Q E, sp' vs H Q E → sp vs H Q E) : Cl P w K mg base CX k x sp' := by
  obtain ⟨f, fd, ps, F, a, b, d⟩ := c.ex
  exact ⟨f, fd, ps, F.imp h, a, b, d⟩
theorem clMono {CX : CXT} {j : Nat} (c : Cl P w K mg base CX k x sp) (h : k ≤ j) : Cl P w K mg base CX j x sp := by
  obtain ⟨f, fd, ps, F, a, b, d⟩ := c.ex
  exact ⟨f, fd, ps, F.mono h, a, b, d⟩
end
section
variable {X : Cx} {k j : Nat} {x : Str} {sp : Sp} {p pos : Pos} {e : Expr} {es : List Expr} {t : TA}
theorem pcl (c : Cl X.prog X.w X.K X.mg X.base CX0 k x sp) (hr : Room j X.A) (hk : k ≤ j) (hg : Gl X x) (ha : PA X (e :: es) t)
    (hdb : (x == ("__debug__" : Str)) = false := by decide) (he : starEach (e :: es) X.env = (false, eval e X.env) :: starEach es X.env := by rfl) (hpl : (backTo pos (starEach es X.env)).any (·.1) = false := by rfl) :
    PE X (.Call (.Name x p) (e :: es) [] pos) (tCall sp [] E0 t) := by
  obtain ⟨f, fd, ps, F, hm, kp, b⟩ := c.ex
  exact pe_call F (hr.mono hk) hg hm kp b .nil pass0 ha hdb he hpl
/-- a def that may raise, where nothing is let out: it does not -/
theorem pclX (c : Cl X.prog X.w X.K X.mg X.base (L2.CX X.prog X.w) k x sp) (hr : Room j X.A) (hk : k ≤ j) (hg : Gl X x) (ha : PA X (e :: es) t)
    (hdb : (x == ("__debug__" : Str)) = false := by decide) (he : starEach (e :: es) X.env = (false, eval e X.env) :: starEach es X.env := by rfl) (hpl : (backTo pos (starEach es X.env)).any (·.1) = false := by rfl) :
    PE X (.Call (.Name x p) (e :: es) [] pos) (tCall sp [] E0 t) := by
  obtain ⟨f, fd, ps, F, hm, kp, b⟩ := c.ex
  exact pe_call F (hr.mono hk) hg hm kp b .nil passL ha hdb he hpl
/-- .. where errors are let out -/
theorem pclR {E : XK} (c : Cl X.prog X.w X.K X.mg X.base (L2.CX X.prog X.w) k x sp) (hr : Room j X.A) (hk : k ≤ j) (hg : Gl X x) (hx : Passes (L2.CX X.prog X.w) X E) (ha : PA X (e :: es) t)
    (hdb : (x == ("__debug__" : Str)) = false := by decide) (he : starEach (e :: es) X.env = (false, eval e X.env) :: starEach es X.env := by rfl) (hpl : (backTo pos (starEach es X.env)).any (·.1) = false := by rfl) :
    PE X (.Call (.Name x p) (e :: es) [] pos) (tCall sp [] E t) := by
  obtain ⟨f, fd, ps, F, hm, kp, b⟩ := c.ex
  exact pe_call F (hr.mono hk) hg hm kp b .nil hx ha hdb he hpl
/-- inside a try's body, at the slots -/
theorem pclS {E : L2.St → XK} (c : Cl X.prog X.w X.K X.mg X.base (L2.CX X.prog X.w) k x sp) (hr : Room j X.A) (hk : k ≤ j) (hg : Gl X x) (hx : ∀ σ, PassesAt (L2.CX X.prog X.w) X σ (E σ)) (ha : PA X (e :: es) t)
    (hdb : (x == ("__debug__" : Str)) = false := by decide) (he : starEach (e :: es) X.env = (false, eval e X.env) :: starEach es X.env := by rfl) (hpl : (backTo pos (starEach es X.env)).any (·.1) = false := by rfl) :
    PE X (.Call (.Name x p) (e :: es) [] pos) (tCallS sp E t) := by
  obtain ⟨f, fd, ps, F, hm, kp, b⟩ := c.ex
  exact pe_callS F (hr.mono hk) hg hm kp b hx ha hdb he hpl
end
/-! ### slices of lists and of texts -/
def rSlA (K : PySem.W.Frag) : V → Option Int → Option Int → Hp → VK → Prop := fun x lo hi H Q => rSlL K x lo hi H Q ∨ rSlS x lo hi H Q
theorem slA {X : Cx} : SlR X (rSlA X.K) := fun pins s σ H x v vl vu lo hi sl Q I rx hs pl pu h => by
  rcases h with h | h
  · exact sl_list pins s σ H x v vl vu lo hi sl Q I rx hs pl pu h
  · exact sl_str pins s σ H x v vl vu lo hi sl Q I rx hs pl pu h
def cutD (ds : List D) (lo hi : Option Int) : List D := (ds.drop (HT.sIx ds.length 0 lo)).take (HT.sIx ds.length ds.length hi - HT.sIx ds.length 0 lo)
section
variable {K : PySem.W.Frag} {ds : List D} {lo hi : Option Int} {x : Str}
theorem rs_lst : RsD K (rSlA K) (.lst ds) lo hi (.lst (cutD ds lo hi)) := fun F H v s rv Q q => by
  cases rv with
  | @lst a xs _ ha ra =>
    refine .inl ⟨a, xs, rfl, .inl (.inl (s _ _ ha)), fun p hp => ?_⟩
    have g := Gr.new (o := .lst (cutV xs lo hi)) s hp
    refine q _ _ _ g (.lst upd_same (RpA.mono g.f ?_))
    unfold cutV cutD
    rw [ra.len]
    exact (ra.drop _).take _
theorem rs_scr {ns : List Int} : RsD K (rSlA K) (.scr ns) lo hi (.lst (cutD (ns.map .int) lo hi)) := fun F H v s rv Q q => by
  cases rv with
  | @scr a _ ha =>
    refine .inl ⟨a, _, rfl, s.seq ha, fun p hp => ?_⟩
    have g := Gr.new (o := .lst (cutV (ns.map V.int) lo hi)) s hp
    refine q _ _ _ g (.lst upd_same (RpA.mono g.f ?_))
    unfold cutV cutD
    rw [List.length_map, List.length_map]
    exact ((RpA.ofInts ns).drop _).take _
theorem rs_str (h : x.length ≤ 100000) : RsD K (rSlA K) (.str x) lo hi (.str (cutS x lo hi)) := fun F H v s rv Q q => by
  cases rv
  exact .inr ⟨x, rfl, Nat.le_trans h (by decide), q _ F H (Gr.refl s) (.str _)⟩
end
/-! ### what the built-in names are -/
theorem bt_isinstance : bootBuiltins "isinstance" = some (.builtin "isinstance") := by decide +kernel
theorem bt_len : bootBuiltins "len" = some (.builtin "len") := by decide +kernel
theorem bt_abs : bootBuiltins "abs" = some (.builtin "abs") := by decide +kernel
theorem bt_max : bootBuiltins "max" = some (.builtin "max") := by decide +kernel
theorem bt_min : bootBuiltins "min" = some (.builtin "min") := by decide +kernel
theorem bt_all : bootBuiltins "all" = some (.builtin "all") := by decide +kernel
theorem bt_sum : bootBuiltins "sum" = some (.builtin "sum") := by decide +kernel
theorem bt_sorted : bootBuiltins "sorted" = some (.builtin "sorted") := by decide +kernel
theorem bt_repr : bootBuiltins "repr" = some (.builtin "repr") := by decide +kernel
theorem bt_int : bootBuiltins "int" = some (.type "int") := by decide +kernel
theorem bt_str : bootBuiltins "str" = some (.type "str") := by decide +kernel
theorem bt_list : bootBuiltins "list" = some (.type "list") := by decide +kernel
theorem bt_tuple : bootBuiltins "tuple" = some (.type "tuple") := by decide +kernel
theorem bt_bool : bootBuiltins "bool" = some (.type "bool") := by decide +kernel
theorem bt_dict : bootBuiltins "dict" = some (.type "dict") := by decide +kernel
theorem bt_ValueError : bootBuiltins "ValueError" = some (.type "ValueError") := by decide +kernel
/-- a class as a value -/
theorem rc_isiC {K : PySem.W.Frag} {d : D} {t : Value} {C : Addr} {b : Bool} (ht : ∀ F H v, Same F H → Rp K F v d → TyX K H v t) (hb : PySem.W.kitOne K t (.ref C) = some b) : RcD K (rIsi K) [d, .adr C] (.bl b) := fun F H vs s r Q q => by
  cases r with
  | cons r rr =>
    cases rr with
    | cons r2 rr =>
      cases rr
      cases r2
      exact ⟨_, _, _, _, b, rfl, .own C, ht F H _ s r, hb, q _ F H (Gr.refl s) (.bl b)⟩
end DL

namespace DL
open PySem PySem.Spec PyProof.Rows L2
/-! ### a def called within an except suite, its argument the error that is handled -/
structure FnE (P : Program) (w : World) (K : PySem.W.Frag) (mg : Str → Option Value) (base : Heap) (k : Nat) (f : Addr) (fd : FuncData) (ps : List Str) (C : Addr) (d : D) : Prop where
  len : ps.length = 1
  run : ∀ (A : Around) (outer : List Env) (s : Shared) (H F : Hp) (args : Args) (us : List Value) (Q : VK) (p : Addr × Obj), L2H.RoomH k A → Zc (.ref C) none p.2 → (∃ vs, p.2.data = .fields vs) → L2H.PinOk outer H s p →
    Env0 P w K mg base A outer s H → BindsTo s fd args (ps.zip us) → Vals [.ref p.1] us → Same F H → (∀ v F' H', Gr F H F' H' → Rp K F' v d → Q v H') → codeAny (model P w) A (.call (.ref f) args) (CR CX0 outer P w H s Q E0) s
structure ClE (P : Program) (w : World) (K : PySem.W.Frag) (mg : Str → Option Value) (base : Heap) (k : Nat) (x : Str) (C : Addr) (d : D) : Prop where
  ex : ∃ (f : Addr) (fd : FuncData) (ps : List Str), FnE P w K mg base k f fd ps C d ∧ mg x = some (.ref f) ∧ PySem.W.keepIn K (.ref f) = true ∧ Binds K fd ps []
section
variable {P : Program} {w : World} {K : PySem.W.Frag} {mg : Str → Option Value} {base : Heap}
theorem clE {x : Str} {st : Stmt} {N ps : List Str} {k : Nat} {C : Addr} {d : D} (De : Df K mg x ps st) (S : FnScope N ps (defScope st)) (hl : ps.length = 1)
    (body : ∀ (f : Addr) (cdv : Value) (A : Around) (outer : List Env) (s : Shared) (H : Hp) (p : Addr × Obj), Zc (.ref C) none p.2 → (∃ vs, p.2.data = .fields vs) → L2H.RoomH k (A.deeper (envOfC x (defScope st) s.heap.objs.size f cdv)) →
      ∃ t, PSs (L2H.cxH CX0 P w K mg base N x (defScope st) f cdv A outer s H E0 p).nox (defBody st) t ∧ Sd K E0 t (startG N [.adr p.1]) (.rt d)) : ClE P w K mg base (k + 1) x C d := by
  obtain ⟨f, fd, F, hm, b⟩ := De.ex
  have kp := F.kp
  obtain ⟨oc, od, kV, doc, pm, an, cdv, ct, osl, rfl, lk, hcd⟩ := F.ex
  refine ⟨f, _, ps, ⟨hl, fun A outer s H Fz args us Q p hr hz hf hpin e0 hb r sF q => ?_⟩, hm, kp, b⟩
  have hlv : ([V.ref p.1] : List V).length = ps.length := hl.symm
  have KX : K.In s.heap := e0.mod.kin.keeps fun b o e => (e0.bs b o e).1
  have lim : s.heap.NoLimit := e0.mod.nolimit.keeps fun b o e => (e0.bs b o e).1
  have hkind : ∀ y ∈ ps.zip us, (defScope st).names.lookup y.1 = some .local ∨ ((defScope st).names.lookup y.1 = some .cell ∧ ((cellsFrom (s.heap.objs.size + 1) (defScope st).names []).lookup y.1).isSome = true) := by
    rintro ⟨n, v⟩ hy
    rcases S.par n (List.of_mem_zip hy).1 with z | z
    · exact .inl z
    · exact .inr ⟨z, PySem.W.cellsFrom_some _ _ _ (.inl z)⟩
  refine codeAny_call_function hr.depth (KX _ _ lk) rfl S.co S.gen rfl (PySem.W.codeRec_of KX hcd) (hb _ _ _ _ ?_)
  refine wpAny_newFunctionEnv_cells S.kind hkind fun env he s1 x => ?_
  subst he
  refine ⟨lim.keeps x.toInCall.keep, codeAny_func ?_⟩
  obtain ⟨t, ht, hq⟩ := body f cdv A outer s H p hz hf (hr.deeper _)
  have I := L2H.inv_startH (CX := CX0) (E := E0) (f := f) (cd := cdv) S hpin e0 hlv r x
  refine wpAny_mono (ht.nox.run [] s1 (L2.start N [.ref p.1]) H _ I (run_rt (Q := Q) hq sF (.cons (.adr p.1) .nil) q)) (fun fl s' hs => ?_) fun e s' hs => hs
  cases fl with
  | ret u =>
    obtain ⟨v, σ', H', J, rv, q'⟩ := hs
    exact ⟨v, H', J.os, J.bare, J.base, J.hok, rv, q'⟩
  | next =>
    obtain ⟨σ', H', J, q'⟩ := hs
    exact ⟨.non, H', J.os, J.bare, J.base, J.hok, rfl, q'⟩
  | brk =>
    obtain ⟨_, _, _, z⟩ := hs
    exact z.elim
  | cont =>
    obtain ⟨_, _, _, z⟩ := hs
    exact z.elim
end
/-- isinstance of the error that is pinned -/
theorem call_isP {X : Cx} {p : Addr × Obj} {C : Addr} (hp : p ∈ X.pn) (G : ExcC X.K C) (hz : Zc (.ref C) none p.2) (hf : ∃ vs, p.2.data = .fields vs) : CallR X (.builtin "isinstance") (rIsE X.K C p.1) := by
  intro pins s σ H xs us Q I r h
  obtain ⟨c, cv, b, rfl, hcv, e, q⟩ := h
  obtain ⟨u1, u2, rfl, r1, r2⟩ := vals2 r
  cases (show u1 = Value.ref p.1 from r1)
  have ec := hcv _ r2
  subst ec
  have hget := (I.pin p (List.mem_append_left _ hp)).1
  obtain ⟨vs, hv⟩ := hf
  have J : PySem.W.InstAt s.heap p.1 p.2 C none := by
    obtain ⟨a, oc, od, oda, osl⟩ := p
    obtain ⟨h1, h2⟩ := hz
    dsimp only at h1 h2 hv
    subst h1 h2 hv
    exact ⟨hget, rfl, rfl, trivial⟩
  exact PySem.W.kia_one (PySem.W.handS_kitx_exc G.hg G.hk G.hs G.hd G.ha G.hn G.ht G.hm) I.kIn J e (fun z => nomatch z) fun tk => ⟨.bl b, H, I.tok tk, rfl, q⟩
section
variable {K : PySem.W.Frag} {C D' a : Addr} {b : Bool}
theorem rc_isP (h : PySem.W.kitOne K (.ref C) (.ref D') = some b) : RcD K (rIsE K C a) [.adr a, .adr D'] (.bl b) := fun F H vs s r Q q => by
  cases r with
  | cons r1 rr =>
    cases rr with
    | cons r2 rr =>
      cases rr
      cases r1
      cases r2
      exact ⟨.ref D', .ref D', b, rfl, fun u z => z, h, q _ F H (Gr.refl s) (.bl b)⟩
theorem rc_isPT {n : String} (h : PySem.W.kitOne K (.ref C) (.type n) = some b) : RcD K (rIsE K C a) [.adr a, .ty n] (.bl b) := fun F H vs s r Q q => by
  cases r with
  | cons r1 rr =>
    cases rr with
    | cons r2 rr =>
      cases rr
      cases r1
      cases r2
      exact ⟨.ty n, .type n, b, rfl, fun u z => z, h, q _ F H (Gr.refl s) (.bl b)⟩
end
/-! ### the call within the suite -/
def tCallE (K : PySem.W.Frag) (W : Addr → Option D) (a : Addr) (cls : Value) (dd : Option Addr) (t : TA) : TE := fun σ H Q => t σ H fun vs H1 => vs = [.ref a] ∧ ∃ C d F, cls = .ref C ∧ dd = none ∧ W C = some d ∧ Same F H1 ∧ ∀ v F' H', Gr F H1 F' H' → Rp K F' v d → Q v H'
theorem pe_callE {X : Cx} {a : Addr} {oe : Obj} {pn : List (Addr × Obj)} {cls : Value} {dd : Option Addr} {W : Addr → Option D} {k j : Nat} {x : Str} {q pos : Pos} {e : Expr} {t : TA} (hF : ∀ C d, W C = some d → ClE X.prog X.w X.K X.mg X.base k x C d)
    (hmx : ∃ f, X.mg x = some (.ref f) ∧ PySem.W.keepIn X.K (.ref f) = true)
    (hr : Room j X.A) (hk : k ≤ j) (hz : Zc cls dd oe) (hf : ∃ vs, oe.data = .fields vs) (hg : Gl X x) (ha : PA (X.suite a ((a, oe) :: pn)) [e] t) (hdb : (x == ("__debug__" : Str)) = false := by decide)
    (he : starEach (e :: []) X.env = (false, eval e X.env) :: starEach [] X.env := by rfl) (hpl : (backTo pos (starEach [] X.env)).any (·.1) = false := by rfl) :
    PE (X.suite a ((a, oe) :: pn)) (.Call (.Name x q) [e] [] pos) (tCallE X.K W a cls dd t) := by
  refine ⟨fun pins s σ H Q I h => ?_⟩
  have hroom : L2H.RoomH j (X.suite a ((a, oe) :: pn)).A := ⟨hr.dp, hr.un⟩
  obtain ⟨f0, hm0, kp0⟩ := hmx
  refine wpAny_Call_Name_kw (ld_glob (X := X.suite a ((a, oe) :: pn)) I hg hm0 ?_ hdb)
  refine PySem.W.callWith_K (h₀ := X.base) I.ok.mod.kin kp0 (thn (ha.run pos pins s σ H _ I h) fun us s1 ⟨vs, H1, I1, r, q1⟩ => ⟨I1.kIn, ?_⟩) he hpl
  obtain ⟨rfl, C, d, F, e1, e2, e3, sF, q2⟩ := q1
  obtain ⟨f, fd, ps, G, hm, kp, b⟩ := (hF C d e3).ex
  rw [hm0] at hm
  cases hm
  have hlu : us.length = ps.length := by rw [← r.length]; exact G.len.symm
  have bb := b s1 us I1.kIn (by rw [List.append_nil]; exact hlu)
  rw [List.append_nil] at bb
  have P1 := I1.pin (a, oe) (List.mem_append_left _ List.mem_cons_self)
  have hpin : L2H.PinOk (X.suite a ((a, oe) :: pn)).stack H1 s1 (a, oe) := ⟨P1.1, P1.2.1, fun hm => (List.mem_cons.mp (I1.stkSub a hm)).elim P1.2.2.1 P1.2.2.2.1, P1.2.2.2.2⟩
  have hz' : Zc (.ref C) none oe := ⟨hz.1.trans e1, hz.2.trans e2⟩
  refine wpAny_call (codeAny_mono (G.run _ _ s1 H1 F ⟨us, []⟩ us Q (a, oe) ⟨by have := hroom.dp; omega, by have := hroom.un; omega⟩ hz' hf hpin I1.env0 bb r sF q2) fun rs s' hq => ?_)
  cases rs with
  | error e => exact False.elim hq
  | ok fl =>
    cases fl with
    | ret u => exact I1.after hq
    | next => exact False.elim hq
    | brk => exact False.elim hq
    | cont => exact False.elim hq
/-! ### try: body, except C as e: return word_of(e) -/
/-- the body raises an error of the class at C, its slots as they were -/
def SdW (K : PySem.W.Frag) (W : WX) (ts : TS) (Γ : Gam) (C : Addr) : Prop := ∀ (F0 H0 F H : Hp) (σ : L2.St) (De : Ends), Ok K F0 H0 F H σ Γ → (∀ F1 H1, Ok K F0 H0 F1 H1 σ Γ → W (.ref C) none σ H1) → ts De σ H
def XdW (K : PySem.W.Frag) (W : WX) (te : TE) (Γ : Gam) (C : Addr) : Prop := ∀ (F0 H0 F H : Hp) (σ : L2.St), Ok K F0 H0 F H σ Γ → (∀ F1 H1, Ok K F0 H0 F1 H1 σ Γ → W (.ref C) none σ H1) → ∀ Q : VK, te σ H Q
section
variable {K : PySem.W.Frag} {E : XK} {W : WX} {Γ : Gam} {d : D} {ds : List D} {tas : TA} {te ta tb : TE} {t : TT} {ts tu : TS} {S : List D → D → Prop} {T : List D → Addr → Prop} {C : Addr}
theorem ed_callS {E' : L2.St → XK} (h : Ea K tas Γ ds) (hs : S ds d) : Ed K (tCallS (spX K S T) E' tas) Γ d := fun F0 H0 F H σ ok Q q => h F0 H0 F H σ ok _ fun vs F1 H1 g1 r1 =>
  ⟨F1, ds, g1.s, r1, .inl ⟨d, hs, fun v F2 H2 g2 r2 => q v F2 H2 (g1.trans g2) r2⟩⟩
theorem xw_callS (h : Ea K tas Γ ds) (hs : T ds C) : XdW K W (tCallS (spX K S T) (WE W) tas) Γ C := fun F0 H0 F H σ ok fin Q => h F0 H0 F H σ ok _ fun vs F1 H1 g1 r1 =>
  ⟨F1, ds, g1.s, r1, .inr ⟨C, hs, fun F2 H2 g2 => fin F2 H2 ((ok.grow g1).grow g2)⟩⟩
theorem sw_ret (h : XdW K W te Γ C) : SdW K W (tRet te) Γ C := fun F0 H0 F H σ De ok fin => h F0 H0 F H σ ok fin _
theorem sw_drop (h : XdW K W te Γ C) : SdW K W (tDrop te) Γ C := fun F0 H0 F H σ De ok fin => h F0 H0 F H σ ok fin _
theorem sw_head (h : SdW K W ts Γ C) : SdW K W (tSeq ts tu) Γ C := fun F0 H0 F H σ De ok fin => h F0 H0 F H σ _ ok fin
theorem sw_if {b : Bool} (h : Et K t Γ b) (h1 : b = true → SdW K W ts Γ C) (h2 : b = false → SdW K W tu Γ C) : SdW K W (tIfS t ts tu) Γ C := fun F0 H0 F H σ De ok fin => h F0 H0 F H σ ok _ fun F1 H1 g1 => by
  cases b with
  | true => exact h1 rfl F0 H0 F1 H1 σ De (ok.grow g1) fin
  | false => exact h2 rfl F0 H0 F1 H1 σ De (ok.grow g1) fin
/-- what stands ahead of it in the block does not raise and leaves the slots: an if that is not taken -/
theorem sw_skip (h : Et K t Γ false) (h2 : SdW K W tu Γ C) : SdW K W (tSeq (tIfS t ts tNext) tu) Γ C := fun F0 H0 F H σ De ok fin => h F0 H0 F H σ ok _ fun F1 H1 g1 => h2 F0 H0 F1 H1 σ De (ok.grow g1) fin
/-- the whole: it raises, is caught, and the word is told -/
theorem sd_caught {c : Value} {i : Nat} {Wm : Addr → Option D} {Wout : WX} {tb : WX → TS} (hi : i < Γ.length) (hb : ∀ W, SdW K W (tb W) Γ C) (hx : PySem.W.exmOne K (.ref C) c = some true) (hw : Wm C = some d) :
    Sd K E (fun De σ H => tb (wAs K c i (fun a cls dd => tRet (tCallE K Wm a cls dd (tCons (tVar i) tNil))) Wout De) De σ H) Γ (.rt d) := fun F0 H0 F H σ De ok fin =>
  hb _ F0 H0 F H σ De ok fun F1 H1 ok1 => ⟨true, hx, fun _ a ha => by
    have hs : (σ.set i (some (V.ref a)))[i]? = some (some (.ref a)) := List.getElem?_set_self (by rw [ok.len]; exact hi)
    exact ⟨.ref a, hs, rfl, C, d, F1, rfl, rfl, hw, ok1.g.s, fun v F' H' g r => fin v F' H' (ok1.g.trans g) r⟩, fun z => nomatch z⟩
/-- .. it returns -/
theorem sd_calm {Wx : Ends → WX} {tb : WX → TS} {o : Oc} (hb : ∀ W, Sd K E (tb W) Γ o) : Sd K E (fun De σ H => tb (Wx De) De σ H) Γ o := fun F0 H0 F H σ De ok fin => hb _ F0 H0 F H σ De ok fin
/-- sep.join(texts) -/
theorem ed_join {to te : TE} {a : Str} {ys : List Str} (h : Ed K to Γ (.str a)) (h2 : Ed K te Γ (.lst (ys.map .str))) (hl : (ys.map (·.length)).sum + ys.length * a.length ≤ 16777216) :
    Ed K (tM1 (fun x xs H Q => ∃ a p, ∃ ys : List Str, x = .str a ∧ xs = [.ref p] ∧ (SqL K H p (ys.map V.str) ∨ SqT K H p (ys.map V.str)) ∧ (ys.map (·.length)).sum + ys.length * a.length ≤ 16777216 ∧ Q (.str (Txt.join a ys)) H) to te) Γ (.str (Txt.join a ys)) := fun F0 H0 F H σ ok Q q => h F0 H0 F H σ ok _ fun v F1 H1 g1 r1 => by
  cases r1
  refine ⟨⟨a, rfl⟩, h2 F0 H0 F1 H1 σ (ok.grow g1) _ fun w F2 H2 g2 r2 => ?_⟩
  cases r2 with
  | @lst p xs _ hp ra =>
    have e := RpA.strs ra
    subst e
    exact ⟨a, p, ys, rfl, rfl, .inl (.inl (.inl (g2.s _ _ hp))), hl, q _ F2 H2 (g1.trans g2) (.str _)⟩
end
theorem kit_self {K : PySem.W.Frag} {C : Addr} : PySem.W.kitOne K (.ref C) (.ref C) = some true := by
  unfold PySem.W.kitOne
  rw [if_pos (by simp)]
theorem kit_other {K : PySem.W.Frag} {C C' : Addr} {b : Bool} (n : C ≠ C') (ic : PySem.W.isClsIn K C' = true) (tt : PySem.W.typeIn K (.ref C') = some (.type "type")) (hs : PySem.W.subIn K (.ref C) (.ref C') = some b) : PySem.W.kitOne K (.ref C) (.ref C') = some b := by
  unfold PySem.W.kitOne PySem.W.kitCls
  rw [if_neg (fun z => n (Value.ref.inj (beq_iff_eq.mp z)))]
  have ic' : (PySem.W.clsIn K C').isSome = true := ic
  show (if ((PySem.W.clsIn K C').isSome && PySem.W.typeIn K (.ref C') == some (.type "type")) = true then PySem.W.subIn K (.ref C) (.ref C') else none) = some b
  rw [if_pos (by rw [ic', tt]; rfl)]
  exact hs
theorem kit_val {K : PySem.W.Frag} {C : Addr} {b : Bool} (hs : PySem.W.subIn K (.ref C) (.type "ValueError") = some b) : PySem.W.kitOne K (.ref C) (.type "ValueError") = some b := by
  unfold PySem.W.kitOne PySem.W.kitCls
  rw [if_neg (by intro z; exact nomatch (beq_iff_eq.mp z))]
  show (if PySem.W.kitMeta "ValueError" = true then PySem.W.subIn K (.ref C) (.type "ValueError") else none) = some b
  rw [if_pos (by decide +kernel)]
  exact hs
/-- one class is caught -/
def W1 (C0 : Addr) (d0 : D) : Addr → Option D := fun C => if C = C0 then some d0 else none
theorem W1_self {C0 : Addr} {d0 : D} : W1 C0 d0 C0 = some d0 := if_pos rfl
section
variable {P : Program} {w : World} {K : PySem.W.Frag} {mg : Str → Option Value} {base : Heap} {k : Nat} {x : Str} {C0 : Addr} {d0 : D}
theorem W1_ok (c : ClE P w K mg base k x C0 d0) : ∀ C d, W1 C0 d0 C = some d → ClE P w K mg base k x C d := fun C d h => by
  unfold W1 at h
  by_cases e : C = C0
  · subst e
    rw [if_pos rfl] at h
    cases h
    exact c
  · rw [if_neg e] at h
    cases h
theorem ClE.mx (c : ClE P w K mg base k x C0 d0) : ∃ f, mg x = some (.ref f) ∧ PySem.W.keepIn K (.ref f) = true := by
  obtain ⟨f, fd, ps, _, a, b, _⟩ := c.ex
  exact ⟨f, a, b⟩
end
/-! ### the law's own promise -/
def spLaw (K : PySem.W.Frag) : Sp := fun vs H Q _ => ∃ (a : Addr) (ns : List Int), vs = [.ref a] ∧ SqL K H a (ns.map V.int) ∧ ns.length ≤ 63 ∧ (∀ z ∈ ns, Builtin.Int.intBits z ≤ 1048576) ∧ ∀ H', Q (.bl true) H'
def Slaw : List D → D → Prop := fun ds d => ∃ ns : List Int, ds = [.scr ns] ∧ ns.length ≤ 63 ∧ (∀ z ∈ ns, Builtin.Int.intBits z ≤ 1048576) ∧ d = .bl true
theorem law_imp {K : PySem.W.Frag} : ∀ vs H Q E, spLaw K vs H Q E → spR K Slaw vs H Q E := fun vs H Q E ⟨a, ns, e, h, h1, h2, q⟩ =>
  ⟨H, [.scr ns], .bl true, Same.refl H, by rw [e]; exact .cons (.scr h) .nil, ⟨ns, rfl, h1, h2, rfl⟩, fun v F' H' g r => by cases r; exact q H'⟩
theorem fnLaw {P : Program} {w : World} {K : PySem.W.Frag} {mg : Str → Option Value} {base : Heap} {x qual : Str} {st : Stmt} {f : Addr} {fd : FuncData} {N ps : List Str} {k : Nat} (F : Fun K x qual st f fd) (sc : FnScope N ps (defScope st)) (h1 : ps.length = 1)
    (body : ∀ (cdv : Value) (A : Around) (outer : List Env) (s : Shared) (H : Hp) (E : XK), Room k (A.deeper (envOfC qual (defScope st) s.heap.objs.size f cdv)) →
      ∃ t, PSs (cxOf CX0 P w K mg base N qual (defScope st) f cdv A outer s H E).nox (defBody st) t ∧ ∀ ns : List Int, ns.length ≤ 63 → (∀ z ∈ ns, Builtin.Int.intBits z ≤ 1048576) → Sd K E0 t (startG N [.scr ns]) (.rt (.bl true))) : FnOk P w K mg base CX0 (k + 1) f fd ps (spLaw K) :=
  (fnR (S := Slaw) F sc (fun ds d h => by obtain ⟨ns, rfl, _⟩ := h; exact h1.symm) fun cdv A outer s H E hr => by
    obtain ⟨t, ht, hd⟩ := body cdv A outer s H E hr
    exact ⟨t, ht, fun ds d h => by obtain ⟨ns, rfl, a, b, rfl⟩ := h; exact hd ns a b⟩).imp law_imp
end DL

namespace DL
open PySem PySem.Spec PyProof.Rows L2
/-! ### instances: fields, making one -/
def putD (f : Str) (d : D) : List (Str × D) → List (Str × D)
  | [] => [(f, d)]
  | (g, x) :: r => if g = f then (g, d) :: r else (g, x) :: putD f d r
theorem putD_len {f : Str} {d : D} {n : Nat} : ∀ {gs : List (Str × D)}, gs.length < n → n < 1000 → (putD f d gs).length < n + 1 := by
  intro gs h hn
  induction gs generalizing n with
  | nil => show 1 < n + 1; simp only [List.length_nil] at h; omega
  | cons g gs ih =>
    show (if g.1 = f then (g.1, d) :: gs else (g.1, g.2) :: putD f d gs).length < n + 1
    split
    · simp only [List.length_cons] at h ⊢; omega
    · simp only [List.length_cons] at h ⊢
      have := ih (n := n - 1) (by omega) (by omega)
      omega
section
variable {K : PySem.W.Frag} {H : Hp}
theorem RpF.len : ∀ {vs : List (Str × V)} {ds : List (Str × D)}, RpF K H vs ds → vs.length = ds.length
  | _, _, .nil => rfl
  | _, _, .cons _ t => congrArg Nat.succ (RpF.len t)
theorem RpF.put {f : Str} {v : V} {d : D} (r : Rp K H v d) : ∀ {vs : List (Str × V)} {ds : List (Str × D)}, RpF K H vs ds → RpF K H (putF f v vs) (putD f d ds)
  | _, _, .nil => .cons r .nil
  | (g, x) :: vs, (_, y) :: ds, .cons h t => by
    show RpF K H (if g = f then (g, v) :: vs else (g, x) :: putF f v vs) (if g = f then (g, d) :: ds else (g, y) :: putD f d ds)
    by_cases e : g = f
    · rw [if_pos e, if_pos e]; exact .cons r t
    · rw [if_neg e, if_neg e]; exact .cons h (RpF.put r t)
end
section
variable {K : PySem.W.Frag} {E : XK} {Γ : Gam} {d : D} {ds : List D} {te : TE} {tas : TA} {C C' : Addr} {gs : List (Str × D)} {f : Str} {S : List D → D → Prop} {T : List D → Addr → Prop}
theorem ed_fld (h : Ed K te Γ (.ins C gs)) (c : Cls K C) (n : NoAttr K C f) (l : gs.lookup f = some d) : Ed K (tFld K te f) Γ d := fun F0 H0 F H σ ok Q q => h F0 H0 F H σ ok _ fun v F1 H1 g1 r1 => by
  cases r1 with
  | @ins a _ dx fs _ ha hf =>
    obtain ⟨v, hv, rv⟩ := hf.look l
    exact ⟨a, C, dx, fs, v, rfl, g1.s _ _ ha, c, n, hv, q v F1 H1 g1 rv⟩
/-- a field of an instance that this frame owns -/
theorem ed_fldO (i : Nat) {q : Option Addr} (hi : Γ[i]? = some (.ob q C gs)) (c : Cls K C) (n : NoAttr K C f) (l : gs.lookup f = some d) : Ed K (tFld K (tVar i) f) Γ d := fun F0 H0 F H σ ok Q k => by
  obtain ⟨p, ho, a, b, _, _, r, _⟩ := ok.ow i _ hi
  cases r with
  | @ins _ _ dx fs _ hf =>
    obtain ⟨v, hv, rv⟩ := hf.look l
    exact ⟨_, a, p, C, dx, fs, v, rfl, b, c, n, hv, k v F H (Gr.refl ok.g.s) rv⟩
theorem sd_fld (i : Nat) {q : Option Addr} (hi : Γ[i]? = some (.ob q C gs)) (h : Ed K te Γ d) (c : Cls K C) (n : NoAttr K C f) (hl : gs.length < 1000) : Sd K E (sFld K (tVar i) te f) Γ (.nx (Γ.set i (.ob q C (putD f d gs)))) := fun F0 H0 F H σ De ok fin =>
  h F0 H0 F H σ ok _ fun v F1 H1 g1 r1 => by
    obtain ⟨p, ho, a, b, c', e', r, at_⟩ := ok.ow i _ hi
    obtain ⟨c1, b1⟩ := g1.out c' b
    have ok1 := ok.grow g1
    generalize ew : (Ow.ins q C gs) = w at r at_
    cases r with
    | lst r => cases ew
    | @ins _ _ dx fs _ hf =>
      cases ew
      refine ⟨_, a, p, C, dx, fs, rfl, b1, c, n, by rw [hf.len]; exact hl, ?_⟩
      exact fin F1 _ σ g1.f (ok1.upOw hi a (.ins ((hf.mono g1.f).put r1)) (by cases q with | none => trivial | some q => exact at_))
/-- what __init__ promises: called with a new instance and ds, it leaves the instance as d -/
def spI (K : PySem.W.Frag) (C : Addr) (S : List D → D → Prop) (T : List D → Addr → Prop) : Sp := fun vs H Q E => ∃ F Hc x dx vs' ds, vs = .ref x :: vs' ∧ Same F Hc ∧ Hc x = none ∧ Hc dx = none ∧ dx ≠ x ∧ H = upd (upd Hc dx (.own x)) x (.ins C dx []) ∧ RpA K F vs' ds ∧
  ((∃ d, S ds d ∧ ∀ F' H', Gr F Hc F' H' → Rp K F' (.ref x) d → Q .non H') ∨ (∃ C', T ds C' ∧ ∀ F' H', Gr F Hc F' H' → E (.ref C') none H'))
theorem ed_make {E' : XK} (h : Ea K tas Γ ds) (hs : S ds d) : Ed K (tMake C (spI K C S T) [] E' tas) Γ d := fun F0 H0 F H σ ok Q q => h F0 H0 F H σ ok _ fun vs F1 H1 g1 r1 => fun x dx hx hdx ne =>
  ⟨F1, H1, x, dx, vs, ds, by rw [List.append_nil], g1.s, hx, hdx, ne, rfl, r1, .inl ⟨d, hs, fun F2 H2 g2 r2 => ⟨rfl, q _ F2 H2 (g1.trans g2) r2⟩⟩⟩
theorem xd_make (h : Ea K tas Γ ds) (hs : T ds C') : Xd K E (tMake C (spI K C S T) [] E tas) Γ C' := fun F0 H0 F H σ ok fin Q => h F0 H0 F H σ ok _ fun vs F1 H1 g1 r1 => fun x dx hx hdx ne =>
  ⟨F1, H1, x, dx, vs, ds, by rw [List.append_nil], g1.s, hx, hdx, ne, rfl, r1, .inr ⟨C', hs, fun F2 H2 g2 => fin F2 H2 (g1.trans g2)⟩⟩
end
def startI (N : List Str) (x C : Addr) (ds : List D) : Gam := .ob (some x) C [] :: (ds.map .fz ++ List.replicate (N.length - ds.length - 1) .no)
section
variable {K : PySem.W.Frag} {E : XK} {d : D} {ds : List D} {N : List Str} {F Hc : Hp} {vs : List V} {ts : TS} {Q : VK} {x dx C : Addr}
theorem ok_startI (e : Same F Hc) (hx : Hc x = none) (hdx : Hc dx = none) (ne : dx ≠ x) (r : RpA K F vs ds) : Ok K F Hc F (upd (upd Hc dx (.own x)) x (.ins C dx [])) (L2.start N (.ref x :: vs)) (startI N x C ds) := by
  have hl := r.len
  have sH : Same Hc (upd (upd Hc dx (.own x)) x (.ins C dx [])) := fun b o z => by
    rw [upd_ne (ne_of_none z hx), upd_ne (ne_of_none z hdx)]
    exact z
  have noOw : ∀ (i : Nat) (es : Ow), ¬ (ds.map Sl.fz ++ List.replicate (N.length - ds.length - 1) Sl.no)[i]? = some (.own es) := fun i es h => by
    rw [List.getElem?_append] at h
    split at h
    · rw [List.getElem?_map] at h
      cases q : ds[i]? with
      | none => rw [q] at h; cases h
      | some x => rw [q] at h; cases h
    · rw [List.getElem?_replicate] at h
      split at h <;> cases h
  have z : ∀ (i : Nat) (es : Ow), (startI N x C ds)[i]? = some (.own es) → i = 0 ∧ es = .ins (some x) C [] := fun i es h => by
    cases i with
    | zero => cases h; exact ⟨rfl, rfl⟩
    | succ i => exact absurd h (noOw i es)
  refine ⟨⟨Same.refl F, e.trans sH, sH, fun _ h _ => h⟩, ?_, fun i d h => ?_, fun i es h => ?_, fun i j es fs p hij h1 h2 => ?_⟩
  · unfold startI L2.start
    simp only [List.length_append, List.length_map, List.length_replicate, List.length_cons, hl]
    omega
  · cases i with
    | zero => cases h
    | succ i =>
      have h' : (ds.map Sl.fz ++ List.replicate (N.length - ds.length - 1) Sl.no)[i]? = some (.fz d) := h
      rw [List.getElem?_append] at h'
      split at h'
      · rename_i hi
        rw [List.length_map] at hi
        rw [List.getElem?_map] at h'
        cases q : ds[i]? with
        | none => rw [q] at h'; cases h'
        | some x =>
          rw [q] at h'
          cases h'
          obtain ⟨v, hv, rv⟩ := r.get q
          refine ⟨v, ?_, rv⟩
          unfold L2.start
          rw [List.getElem?_append_left (by rw [List.length_map, List.length_cons, hl]; omega), List.getElem?_map, List.getElem?_cons_succ, hv]
          rfl
      · rw [List.getElem?_replicate] at h'
        split at h' <;> cases h'
  · obtain ⟨rfl, rfl⟩ := z i es h
    exact ⟨x, .ins C dx [], rfl, upd_same, e.free hx, hx, .ins .nil, rfl⟩
  · exact absurd ((z i es h1).1.trans (z j fs h2).1.symm) hij
end
section
variable {P : Program} {w : World} {K : PySem.W.Frag} {mg : Str → Option Value} {base : Heap} {x qual : Str} {st : Stmt} {f C : Addr} {fd : FuncData} {N ps : List Str} {k : Nat} {S : List D → D → Prop} {T : List D → Addr → Prop}
/-- __init__ that does not raise -/
theorem fnI (F : Fun K x qual st f fd) (sc : FnScope N ps (defScope st)) (len : ∀ ds d, S ds d → ds.length + 1 = ps.length)
    (body : ∀ (cdv : Value) (A : Around) (outer : List Env) (s : Shared) (H : Hp) (E : XK), Room k (A.deeper (envOfC qual (defScope st) s.heap.objs.size f cdv)) →
      ∃ t, PSs (cxOf CX0 P w K mg base N qual (defScope st) f cdv A outer s H E).nox (defBody st) t ∧ ∀ ds d, S ds d → ∀ x, ∃ Γ gs, Γ[0]? = some (.ob (some x) C gs) ∧ d = .ins C gs ∧ Sd K E0 t (startI N x C ds) (.nx Γ)) : FnOk P w K mg base CX0 (k + 1) f fd ps (spI K C S fun _ _ => False) :=
  F.ok sc (fun vs H Q E h => by
    obtain ⟨F', Hc, x, dx, vs', ds, rfl, e, hx, hdx, ne, rfl, r, ⟨d, hs, q⟩ | ⟨_, z, _⟩⟩ := h
    · rw [List.length_cons, r.len]
      exact len ds d hs
    · exact z.elim) fun cdv A outer s H vs Q E hr h => by
    obtain ⟨F', Hc, x, dx, vs', ds, rfl, e, hx, hdx, ne, rfl, r, ⟨d, hs, q⟩ | ⟨_, z, _⟩⟩ := h
    · obtain ⟨t, ht, hd⟩ := body cdv A outer s _ E hr
      obtain ⟨Γ, gs, h0, rfl, hsd⟩ := hd ds d hs x
      refine ⟨t, ht, hsd F' Hc F' _ _ _ (ok_startI e hx hdx ne r) fun F1 H1 σ1 e1 ok1 => ?_⟩
      obtain ⟨F2, g2, _, _, p, hp, rp⟩ := ok1.freeze h0
      cases (show x = p from hp)
      exact q F2 H1 g2 rp
    · exact z.elim
theorem fnIX (F : Fun K x qual st f fd) (sc : FnScope N ps (defScope st)) (len : ∀ ds d, S ds d → ds.length + 1 = ps.length) (len2 : ∀ ds C, T ds C → ds.length + 1 = ps.length)
    (body : ∀ (cdv : Value) (A : Around) (outer : List Env) (s : Shared) (H : Hp) (E : XK), Room k (A.deeper (envOfC qual (defScope st) s.heap.objs.size f cdv)) →
      ∃ t, PSs (cxOf (L2.CX P w) P w K mg base N qual (defScope st) f cdv A outer s H E) (defBody st) t ∧ (∀ ds d, S ds d → ∀ x, ∃ Γ gs, Γ[0]? = some (.ob (some x) C gs) ∧ d = .ins C gs ∧ Sd K E t (startI N x C ds) (.nx Γ)) ∧ (∀ ds C', T ds C' → ∀ x, Sd K E t (startI N x C ds) (.ex C'))) :
      FnOk P w K mg base (L2.CX P w) (k + 1) f fd ps (spI K C S T) :=
  F.okX sc (fun vs H Q E h => by
    obtain ⟨F', Hc, x, dx, vs', ds, rfl, e, hx, hdx, ne, rfl, r, ⟨d, hs, q⟩ | ⟨C', hs, q⟩⟩ := h
    · rw [List.length_cons, r.len]
      exact len ds d hs
    · rw [List.length_cons, r.len]
      exact len2 ds C' hs) fun cdv A outer s H vs Q E hr h => by
    obtain ⟨F', Hc, x, dx, vs', ds, rfl, e, hx, hdx, ne, rfl, r, h⟩ := h
    obtain ⟨t, ht, hd, hx2⟩ := body cdv A outer s _ E hr
    refine ⟨t, ht, ?_⟩
    rcases h with ⟨d, hs, q⟩ | ⟨C', hs, q⟩
    · obtain ⟨Γ, gs, h0, rfl, hsd⟩ := hd ds d hs x
      refine hsd F' Hc F' _ _ _ (ok_startI e hx hdx ne r) fun F1 H1 σ1 e1 ok1 => ?_
      obtain ⟨F2, g2, _, _, p, hp, rp⟩ := ok1.freeze h0
      cases (show x = p from hp)
      exact q F2 H1 g2 rp
    · exact hx2 ds C' hs x F' Hc F' _ _ _ (ok_startI e hx hdx ne r) q
end
/-- a class that makes instances by its own __init__ -/
structure Ci (P : Program) (w : World) (K : PySem.W.Frag) (mg : Str → Option Value) (base : Heap) (CX : CXT) (k : Nat) (x : Str) (C : Addr) (sp : Sp) : Prop where
  ex : ∃ (f : Addr) (fd : FuncData) (ps : List Str), Mk K C f ∧ FnOk P w K mg base CX k f fd ps sp ∧ mg x = some (.ref C) ∧ Binds K fd ps []
section
variable {X : Cx} {k j : Nat} {x : Str} {sp : Sp} {p pos : Pos} {e : Expr} {es : List Expr} {t : TA} {C : Addr}
theorem pci (c : Ci X.prog X.w X.K X.mg X.base CX0 k x C sp) (hr : Room j X.A) (hk : k + 1 ≤ j) (hg : Gl X x) (ha : PA X (e :: es) t)
    (hdb : (x == ("__debug__" : Str)) = false := by decide) (he : starEach (e :: es) X.env = (false, eval e X.env) :: starEach es X.env := by rfl) (hpl : (backTo pos (starEach es X.env)).any (·.1) = false := by rfl) :
    PE X (.Call (.Name x p) (e :: es) [] pos) (tMake C sp [] E0 t) := by
  obtain ⟨f, fd, ps, M, F, hm, b⟩ := c.ex
  exact pe_make M F (hr.mono hk) hg hm b .nil pass0 ha hdb he hpl
theorem pciX (c : Ci X.prog X.w X.K X.mg X.base (L2.CX X.prog X.w) k x C sp) (hr : Room j X.A) (hk : k + 1 ≤ j) (hg : Gl X x) (ha : PA X (e :: es) t)
    (hdb : (x == ("__debug__" : Str)) = false := by decide) (he : starEach (e :: es) X.env = (false, eval e X.env) :: starEach es X.env := by rfl) (hpl : (backTo pos (starEach es X.env)).any (·.1) = false := by rfl) :
    PE X (.Call (.Name x p) (e :: es) [] pos) (tMake C sp [] E0 t) := by
  obtain ⟨f, fd, ps, M, F, hm, b⟩ := c.ex
  exact pe_make M F (hr.mono hk) hg hm b .nil passL ha hdb he hpl
theorem pciR {E : XK} (c : Ci X.prog X.w X.K X.mg X.base (L2.CX X.prog X.w) k x C sp) (hr : Room j X.A) (hk : k + 1 ≤ j) (hg : Gl X x) (hx : Passes (L2.CX X.prog X.w) X E) (ha : PA X (e :: es) t)
    (hdb : (x == ("__debug__" : Str)) = false := by decide) (he : starEach (e :: es) X.env = (false, eval e X.env) :: starEach es X.env := by rfl) (hpl : (backTo pos (starEach es X.env)).any (·.1) = false := by rfl) :
    PE X (.Call (.Name x p) (e :: es) [] pos) (tMake C sp [] E t) := by
  obtain ⟨f, fd, ps, M, F, hm, b⟩ := c.ex
  exact pe_make M F (hr.mono hk) hg hm b .nil hx ha hdb he hpl
end
/-- a class's own __init__, a method: as the top has made them -/
structure Di (K : PySem.W.Frag) (C : Addr) (x qual : Str) (ps : List Str) (st : Stmt) : Prop where
  ex : ∃ (f : Addr) (fd : FuncData), Mk K C f ∧ Fun K x qual st f fd ∧ Binds K fd ps []
structure Dm (K : PySem.W.Frag) (C : Addr) (x qual : Str) (ps : List Str) (st : Stmt) : Prop where
  ex : ∃ (f : Addr) (fd : FuncData), Meth K C x f ∧ Fun K x qual st f fd ∧ Binds K fd ps []
section
variable {P : Program} {w : World} {K : PySem.W.Frag} {mg : Str → Option Value} {base : Heap} {x m qual : Str} {st : Stmt} {C : Addr} {N ps : List Str} {k : Nat} {S : List D → D → Prop} {T : List D → Addr → Prop}
theorem ciI (D : Di K C m qual ps st) (hm : mg x = some (.ref C)) (sc : FnScope N ps (defScope st)) (len : ∀ ds d, S ds d → ds.length + 1 = ps.length)
    (body : ∀ (f : Addr) (cdv : Value) (A : Around) (outer : List Env) (s : Shared) (H : Hp) (E : XK), Room k (A.deeper (envOfC qual (defScope st) s.heap.objs.size f cdv)) →
      ∃ t, PSs (cxOf CX0 P w K mg base N qual (defScope st) f cdv A outer s H E).nox (defBody st) t ∧ ∀ ds d, S ds d → ∀ x, ∃ Γ gs, Γ[0]? = some (.ob (some x) C gs) ∧ d = .ins C gs ∧ Sd K E0 t (startI N x C ds) (.nx Γ)) : Ci P w K mg base CX0 (k + 1) x C (spI K C S fun _ _ => False) := by
  obtain ⟨f, fd, M, F, b⟩ := D.ex
  exact ⟨f, fd, ps, M, fnI F sc len (body f), hm, b⟩
theorem ciX (D : Di K C m qual ps st) (hm : mg x = some (.ref C)) (sc : FnScope N ps (defScope st)) (len : ∀ ds d, S ds d → ds.length + 1 = ps.length) (len2 : ∀ ds C, T ds C → ds.length + 1 = ps.length)
    (body : ∀ (f : Addr) (cdv : Value) (A : Around) (outer : List Env) (s : Shared) (H : Hp) (E : XK), Room k (A.deeper (envOfC qual (defScope st) s.heap.objs.size f cdv)) →
      ∃ t, PSs (cxOf (L2.CX P w) P w K mg base N qual (defScope st) f cdv A outer s H E) (defBody st) t ∧ (∀ ds d, S ds d → ∀ x, ∃ Γ gs, Γ[0]? = some (.ob (some x) C gs) ∧ d = .ins C gs ∧ Sd K E t (startI N x C ds) (.nx Γ)) ∧ (∀ ds C', T ds C' → ∀ x, Sd K E t (startI N x C ds) (.ex C'))) : Ci P w K mg base (L2.CX P w) (k + 1) x C (spI K C S T) := by
  obtain ⟨f, fd, M, F, b⟩ := D.ex
  exact ⟨f, fd, ps, M, fnIX F sc len len2 (body f), hm, b⟩
end
theorem pe_globI {X : Cx} {x : Str} {i : Int} {pos : Pos} (hg : Gl X x) (hm : ∃ t, X.mg x = some (.int i t)) (hd : (x == ("__debug__" : Str)) = false := by decide) : PE X (.Name x pos) (tC (.int i)) := by
  obtain ⟨t, h⟩ := hm
  exact pe_glob hg h ⟨t, rfl⟩ hd
theorem pe_globS {X : Cx} {x y : Str} {pos : Pos} (hg : Gl X x) (hm : ∃ t, X.mg x = some (.str y t)) (hd : (x == ("__debug__" : Str)) = false := by decide) : PE X (.Name x pos) (tC (.str y)) := by
  obtain ⟨t, h⟩ := hm
  exact pe_glob hg h ⟨t, rfl⟩ hd
/-- a pair of intL that the top made -/
theorem sqt_pair {K : PySem.W.Frag} {a : Addr} {od : Option Addr} {i j : Int} {t u : Tok} {n : Nat} {sl : Array (Option Value)} (h : K.lookup a = some ⟨.type "tuple", od, .seq #[.int i t, .int j u] n, sl⟩) : ∀ H, SqT K H a [.int i, .int j] := fun H =>
  .inr ⟨_, _, _, h, rfl, rfl, (by show 2 ≤ sizeLine; decide), .cons ⟨_, rfl⟩ (.cons ⟨_, rfl⟩ .nil)⟩
theorem ed_pair {K : PySem.W.Frag} {a : Addr} {i j : Int} {Γ : Gam} (h : ∀ H, SqT K H a [.int i, .int j]) : Ed K (tC (.ref a)) Γ (.tup [.int i, .int j]) := ed_c fun F => .tup (h F) (.cons (.int i) (.cons (.int j) .nil))
theorem Ei.is {K : PySem.W.Frag} {wi : TI} {Γ : Gam} {ds es : List D} (h : Ei K wi Γ ds) (e : ds = es) : Ei K wi Γ es := e ▸ h
/-! a def that ends without a return: None -/
section
variable {P : Program} {w : World} {K : PySem.W.Frag} {mg : Str → Option Value} {base : Heap} {x : Str} {st : Stmt} {N ps : List Str} {k : Nat} {S : List D → D → Prop} {T : List D → Addr → Prop}
theorem clXN (D : Df K mg x ps st) (sc : FnScope N ps (defScope st)) (len : ∀ ds d, S ds d → ds.length = ps.length) (len2 : ∀ ds C, T ds C → ds.length = ps.length)
    (body : ∀ (f : Addr) (cdv : Value) (A : Around) (outer : List Env) (s : Shared) (H : Hp) (E : XK), Room k (A.deeper (envOfC x (defScope st) s.heap.objs.size f cdv)) →
      ∃ t, PSs (cxOf (L2.CX P w) P w K mg base N x (defScope st) f cdv A outer s H E) (defBody st) t ∧ (∀ ds d, S ds d → d = .non ∧ ∃ Γ, Sd K E t (startG N ds) (.nx Γ)) ∧ (∀ ds C, T ds C → Sd K E t (startG N ds) (.ex C))) : Cl P w K mg base (L2.CX P w) (k + 1) x (spX K S T) := by
  obtain ⟨f, fd, F, hm, b⟩ := D.ex
  refine ⟨f, fd, ps, ?_, hm, F.kp, b⟩
  exact F.okX sc (fun vs H Q E h => by
    obtain ⟨F', ds, e, r, ⟨d, hs, q⟩ | ⟨C, hs, q⟩⟩ := h
    · rw [r.len]
      exact len ds d hs
    · rw [r.len]
      exact len2 ds C hs) fun cdv A outer s H vs Q E hr h => by
    obtain ⟨F', ds, e, r, h⟩ := h
    obtain ⟨t, ht, hd, hx⟩ := body f cdv A outer s H E hr
    refine ⟨t, ht, ?_⟩
    rcases h with ⟨d, hs, q⟩ | ⟨C, hs, q⟩
    · obtain ⟨rfl, Γ, hn⟩ := hd ds d hs
      exact run_nx hn e r q
    · exact run_ex (hx ds C hs) e r q
end
/-! ### list(x); the place of a sign -/
def rListA (K : PySem.W.Frag) : List V → Hp → VK → Prop := fun xs H Q => ∃ p ys, xs = [.ref p] ∧ (SqL K H p ys ∨ SqT K H p ys) ∧ ∀ l, H l = none → Q (.ref l) (upd H l (.lst ys))
theorem callList {X : Cx} : CallR X (.type "list") (rListA X.K) := call_list_of
def rIndexC : V → List V → Hp → VK → Prop := fun x xs H Q => ∃ (a b : Str) (k : Nat), x = .str a ∧ xs = [.str b] ∧ Txt.index0 a b = some k ∧ Q (.int (k : Nat)) H
theorem mt_indexC {X : Cx} : MtR X "str.index" rIndexC := by
  intro pins s σ H x xs v us Q I rx rs h
  obtain ⟨a, b, k, rfl, rfl, hk, hq⟩ := h
  obtain ⟨t, rfl⟩ := rx
  cases rs with
  | cons r1 rs =>
    cases rs
    obtain ⟨u, rfl⟩ := r1
    cases q : Builtin.Str.occurrences a b 0 a.length 1 with
    | nil => unfold Txt.index0 at hk; rw [q] at hk; cases hk
    | cons k' rest =>
      have : k' = k := by unfold Txt.index0 at hk; rw [q] at hk; exact Option.some.inj hk
      subst this
      exact PySem.SC.index q ⟨.int (k' : Nat), H, I.tok _, ⟨_, rfl⟩, hq⟩
theorem index0_one {x : Str} {c k : Nat} (h : x.cps.toList[k]? = some c) (hn : ∀ j, j < k → x.cps.toList[j]? ≠ some c) : Txt.index0 x ⟨#[c]⟩ = some k := by
  have at' : ∀ i, StrLaws.At x ⟨#[c]⟩ x.length i ↔ x.cps.toList[i]? = some c := fun i => StrLaws.subAt_one x c i
  unfold Txt.index0
  rcases StrLaws.occ_head x ⟨#[c]⟩ 1 (Nat.le_refl 1) with ⟨_, h2⟩ | ⟨i, r, h1, h2, h3⟩
  · exact absurd ((at' k).mpr h) (h2 k)
  · rw [h1]
    have e1 := (at' i).mp h2
    rcases Nat.lt_trichotomy i k with z | z | z
    · exact absurd e1 (hn i z)
    · rw [z]; rfl
    · exact absurd ((at' k).mpr h) (h3 k z)
section
variable {K : PySem.W.Frag} {Γ : Gam} {to te : TE} {a b : Str} {k : Nat} {ds : List D}
theorem ed_index (h : Ed K to Γ (.str a)) (h2 : Ed K te Γ (.str b)) (hk : Txt.index0 a b = some k) : Ed K (tM1 rIndexC to te) Γ (.int (k : Nat)) := fun F0 H0 F H σ ok Q q => h F0 H0 F H σ ok _ fun v F1 H1 g1 r1 => by
  cases r1
  refine ⟨⟨a, rfl⟩, h2 F0 H0 F1 H1 σ (ok.grow g1) _ fun w F2 H2 g2 r2 => ?_⟩
  cases r2
  exact ⟨a, b, k, rfl, rfl, hk, q _ F2 H2 (g1.trans g2) (.int _)⟩
theorem rc_listL : RcD K (rListA K) [.lst ds] (.lst ds) := fun F H vs s r Q q => by
  cases r with
  | cons r rr =>
    cases rr
    cases r with
    | @lst a xs _ ha ra =>
      refine ⟨a, xs, rfl, .inl (.inl (.inl (s _ _ ha))), fun l hl => ?_⟩
      have g := Gr.new (o := .lst xs) s hl
      exact q _ _ _ g (.lst upd_same (ra.mono g.f))
def rInC : R2 := fun x y H Q => ∃ (c : Nat) (z : Str), x = .str ⟨#[c]⟩ ∧ y = .str z ∧ Q (.bl (decide (c ∈ z.cps.toList))) H
theorem r2_in {c : Nat} {z : Str} : R2D K (fun x y H Q => ∃ (c : Nat) (z : Str), x = .str ⟨#[c]⟩ ∧ y = .str z ∧ Q (.bl (decide (c ∈ z.cps.toList))) H) (.str ⟨#[c]⟩) (.str z) (.bl (decide (c ∈ z.cps.toList))) := fun F H v w s rv rw Q q => by
  cases rv; cases rw
  exact ⟨c, z, rfl, rfl, q _ F H (Gr.refl s) (.bl _)⟩
end
/-! ### loops by places -/
section
variable {K : PySem.W.Frag} {E : XK} {g : TG} {ts : TS} {α : Type}
theorem loopF_ix (xs : List α) (enc : α → D) (st : Nat → Gam) (h : ∀ i (hi : i < xs.length), ∃ js Γ1, Eg K g js (enc xs[i]) (st i) Γ1 ∧ Sd K E ts Γ1 (.lp (st (i + 1)))) : LoopF K E g ts (xs.map enc) (st 0) (.nx (st xs.length)) := by
  suffices main : ∀ n k, k + n = xs.length → LoopF K E g ts ((xs.drop k).map enc) (st k) (.nx (st xs.length)) by
    have z := main xs.length 0 (by omega)
    rw [List.drop_zero] at z
    exact z
  intro n
  induction n with
  | zero =>
    intro k hk
    have e : k = xs.length := by omega
    subst e
    rw [List.drop_length]
    exact .done
  | succ n ih =>
    intro k hk
    have hlt : k < xs.length := by omega
    obtain ⟨js, Γ1, a, b⟩ := h k hlt
    rw [List.drop_eq_getElem_cons hlt, List.map_cons]
    exact .step a b (ih (k + 1) (by omega))
/-- over range(n) -/
theorem loopF_rg (n : Nat) (st : Nat → Gam) (h : ∀ i, i < n → ∃ js Γ1, Eg K g js (.int (i : Nat)) (st i) Γ1 ∧ Sd K E ts Γ1 (.lp (st (i + 1)))) : LoopF K E g ts (rg 0 n) (st 0) (.nx (st n)) := by
  have z := loopF_ix (K := K) (E := E) (g := g) (ts := ts) (List.range n) (fun i => D.int (0 + (i : Nat))) st fun i hi => by
    rw [List.length_range] at hi
    obtain ⟨js, Γ1, a, b⟩ := h i hi
    exact ⟨js, Γ1, by rw [List.getElem_range, Int.zero_add]; exact a, b⟩
  rw [List.length_range] at z
  exact z
end
def intL (ts : List Int) : D := .lst (ts.map .int)
section
variable {K : PySem.W.Frag} {Γ : Gam} {g : TG} {te tn : TE} {vs : List Nat}
/-- [e for i in range(n)], n told by a term -/
theorem ed_rg (n : Nat) (f : Nat → D) (i : Nat) (hv : i ∈ vs) (hw : Ed K tn Γ (.int (n : Nat))) (hl : n ≤ 100000)
    (h : ∀ j, j < n → Ed K te ((wipeG Γ vs).set i (.fz (.int (j : Nat)))) (f j)) : Ed K (tLc (iRng1 (tCons tn tNil)) (gName i) tYes te vs) Γ (.lst ((List.range n).map f)) :=
  ed_map (List.range n) (fun j => .int (0 + (j : Nat))) f (Ei.is (ei_rng1 (n := (n : Int)) (ea_cons hw ea_nil) (by omega)) (by rw [Int.toNat_natCast]; rfl)) (by rw [List.length_range]; exact hl) fun j hj =>
    ⟨[i], _, eg_name i, by simpa using hv, by rw [Int.zero_add]; exact h j (List.mem_range.mp hj)⟩
end
/-! a def whose result is a new list -/
section
variable {P : Program} {w : World} {K : PySem.W.Frag} {mg : Str → Option Value} {base : Heap} {x : Str} {st : Stmt} {N ps : List Str} {k : Nat} {S : List D → List D → Prop} {T : List D → Addr → Prop}
theorem clW (D : Df K mg x ps st) (sc : FnScope N ps (defScope st)) (len : ∀ ds d, S ds d → ds.length = ps.length)
    (body : ∀ (f : Addr) (cdv : Value) (A : Around) (outer : List Env) (s : Shared) (H : Hp) (E : XK), Room k (A.deeper (envOfC x (defScope st) s.heap.objs.size f cdv)) →
      ∃ t, PSs (cxOf CX0 P w K mg base N x (defScope st) f cdv A outer s H E).nox (defBody st) t ∧ ∀ ds es, S ds es → Sd K E0 t (startG N ds) (.rw es)) : Cl P w K mg base CX0 (k + 1) x (spW K S) := by
  obtain ⟨f, fd, F, hm, b⟩ := D.ex
  refine ⟨f, fd, ps, ?_, hm, F.kp, b⟩
  exact F.ok sc (fun vs H Q E h => by
    obtain ⟨F', ds, es, e, r, hs, q⟩ := h
    rw [r.len]
    exact len ds es hs) fun cdv A outer s H vs Q E hr h => by
    obtain ⟨F', ds, es, e, r, hs, q⟩ := h
    obtain ⟨t, ht, hd⟩ := body f cdv A outer s H E hr
    exact ⟨t, ht, run_rw (hd ds es hs) e r q⟩
theorem clXW (D : Df K mg x ps st) (sc : FnScope N ps (defScope st)) (len : ∀ ds d, S ds d → ds.length = ps.length) (len2 : ∀ ds C, T ds C → ds.length = ps.length)
    (body : ∀ (f : Addr) (cdv : Value) (A : Around) (outer : List Env) (s : Shared) (H : Hp) (E : XK), Room k (A.deeper (envOfC x (defScope st) s.heap.objs.size f cdv)) →
      ∃ t, PSs (cxOf (L2.CX P w) P w K mg base N x (defScope st) f cdv A outer s H E) (defBody st) t ∧ (∀ ds es, S ds es → Sd K E t (startG N ds) (.rw es)) ∧ (∀ ds C, T ds C → Sd K E t (startG N ds) (.ex C))) : Cl P w K mg base (L2.CX P w) (k + 1) x (spXW K S T) := by
  obtain ⟨f, fd, F, hm, b⟩ := D.ex
  refine ⟨f, fd, ps, ?_, hm, F.kp, b⟩
  exact F.okX sc (fun vs H Q E h => by
    obtain ⟨F', ds, e, r, ⟨d, hs, q⟩ | ⟨C, hs, q⟩⟩ := h
    · rw [r.len]
      exact len ds d hs
    · rw [r.len]
      exact len2 ds C hs) fun cdv A outer s H vs Q E hr h => by
    obtain ⟨F', ds, e, r, h⟩ := h
    obtain ⟨t, ht, hd, hx⟩ := body f cdv A outer s H E hr
    refine ⟨t, ht, ?_⟩
    rcases h with ⟨d, hs, q⟩ | ⟨C, hs, q⟩
    · exact run_rw (hd ds d hs) e r q
    · exact run_ex (hx ds C hs) e r q
end
theorem ew_is {K : PySem.W.Frag} {Γ : Gam} {te : TE} {ds es : List D} (h : Ew K te Γ ds) (e : ds = es) : Ew K te Γ es := e ▸ h
theorem clFalse {P : Program} {w : World} {K : PySem.W.Frag} {mg : Str → Option Value} {base : Heap} {x : Str} {st : Stmt} {ps : List Str} {S : List D → D → Prop} (D : Df K mg x ps st) (hS : ∀ ds d, ¬ S ds d) : Cl P w K mg base CX0 0 x (spR K S) := by
  obtain ⟨f, fd, F, hm, b⟩ := D.ex
  exact ⟨f, fd, ps, ⟨fun vs H Q E h => by obtain ⟨_, _, _, _, _, hs, _⟩ := h; exact (hS _ _ hs).elim, fun A outer s H args us vs Q E _ _ _ _ h => by obtain ⟨_, _, _, _, _, hs, _⟩ := h; exact (hS _ _ hs).elim⟩, hm, F.kp, b⟩
/-! what stands in an owned slot, looked at for a while -/
section
variable {K : PySem.W.Frag} {Γ : Gam} {t : TT} {te : TE} {b : Bool} {ow : Ow}
theorem et_tmp (i : Nat) (hi : Γ[i]? = some (.own ow)) (h : Et K t (Γ.set i (.fz ow.toD)) b) : Et K t Γ b := fun F0 H0 F H σ ok Q q => by
  obtain ⟨F', g, sf, ok', _⟩ := ok.freeze hi
  exact h F0 H0 F' H σ ok' Q fun F1 H1 g1 => q F H1 ⟨Same.refl F, ok.g.s.trans g1.h, g1.h, fun _ h _ => h⟩
theorem ed_tmpB (i : Nat) (hi : Γ[i]? = some (.own ow)) (h : Ed K te (Γ.set i (.fz ow.toD)) (.bl b)) : Ed K te Γ (.bl b) := fun F0 H0 F H σ ok Q q => by
  obtain ⟨F', g, sf, ok', _⟩ := ok.freeze hi
  exact h F0 H0 F' H σ ok' Q fun v F1 H1 g1 r => by
    cases r
    exact q _ F H1 ⟨Same.refl F, ok.g.s.trans g1.h, g1.h, fun _ h _ => h⟩ (.bl b)
end
theorem ew_listL {K : PySem.W.Frag} {Γ : Gam} {te : TE} {ds : List D} (h : Ed K te Γ (.lst ds)) : Ew K (tCB (rListA K) (tCons te tNil)) Γ ds := fun F0 H0 F H σ ok Q q => h F0 H0 F H σ ok _ fun v F1 H1 g1 r1 => by
  cases r1 with
  | @lst a xs _ ha ra =>
    refine ⟨a, xs, rfl, .inl (.inl (.inl (g1.s _ _ ha))), fun l hl => ?_⟩
    exact q l xs F1 _ (g1.trans (Gr.newO g1.s hl)) (g1.h.free hl) (g1.s.free hl) upd_same ra
/-! ### within a block of its own: readings told by K -/
section
variable {X : Cx} {K : PySem.W.Frag} {tg e : Expr} {wi wi' : TI} {te te' : TE} {g g' : TG}
theorem pi_cast (h : PI X tg e wi) (q : wi = wi') : PI X tg e wi' := q ▸ h
theorem pe_cast (h : PE X e te) (q : te = te') : PE X e te' := q ▸ h
theorem pg_cast (h : PG X e g) (q : g = g') : PG X e g' := q ▸ h
theorem ix_seqK (q : X.K = K) : IxR X (rIx K) := q ▸ ix_seq
theorem callLenK (q : X.K = K) : CallR X (.builtin "len") (rLenA K) := q ▸ callLen
theorem call_isiK (q : X.K = K) : CallR X (.builtin "isinstance") (rIsi K) := q ▸ call_isi
theorem callListK (q : X.K = K) : CallR X (.type "list") (rListA K) := q ▸ callList
theorem cr_allK (q : X.K = K) (hc : X.calm = true) : CallR X (.builtin "all") (rAll K) := q ▸ cr_all hc
theorem cr_sumK (q : X.K = K) (hc : X.calm = true) : CallR X (.builtin "sum") (rSum K) := q ▸ cr_sum hc
theorem op_eqDK (q : X.K = K) (hu : X.A.units + 64 < cLine) : OpR X (compareOp .Eq) (rEqD K) := q ▸ op_eqD hu
theorem op_neDK (q : X.K = K) (hu : X.A.units + 64 < cLine) : OpR X (compareOp .NotEq) (rNeD K) := q ▸ op_neD hu
theorem slAK (q : X.K = K) : SlR X (rSlA K) := q ▸ slA
end
end DL

namespace DL
open PySem PySem.Spec PyProof.Rows L2
/-! ### where no repr is under way: repr of data -/
def rRepr (K : PySem.W.Frag) : List V → Hp → VK → Prop := fun xs H Q => ∃ a d, xs = [.ref a] ∧ Dp K H (.ref a) d ∧ d.showable = true ∧ d.hasDict = false ∧ d.depth ≤ 60 ∧ d.shown.length ≤ sizeLine ∧ Q (.str d.shown) H
theorem call_reprD {X : Cx} (hg : X.A.guards = some []) (hu : X.A.units + 64 < cLine) : CallR X (.builtin "repr") (rRepr X.K) := by
  intro pins s σ H xs us Q I r h
  obtain ⟨a, d, rfl, hd, hs, hn, hdep, hz, q⟩ := h
  cases r with
  | cons r1 rs =>
    cases rs
    have e := r1
    cases (show _ = Value.ref a from e)
    obtain ⟨as, rd⟩ := Dp.reads I d _ _ hd (show RelV (.ref a) (.ref a) from rfl)
    exact repr_of_reads' rd hs (fun z => by rw [hn] at z; cases z) hg (by omega) (fun b o e => e) (fun h' u tk k => ⟨.str d.shown, H, I.kept k, ⟨_, rfl⟩, q⟩) hz
/-- a def's promise where no repr is under way -/
structure FnG (P : Program) (w : World) (K : PySem.W.Frag) (mg : Str → Option Value) (base : Heap) (k : Nat) (f : Addr) (fd : FuncData) (ps : List Str) (sp : Sp) : Prop where
  len : ∀ vs H Q E, sp vs H Q E → vs.length = ps.length
  run : ∀ (A : Around) (outer : List Env) (s : Shared) (H : Hp) (args : Args) (us : List Value) (vs : List V) (Q : VK) (E : XK), Room k A → A.guards = some [] → Env0 P w K mg base A outer s H → BindsTo s fd args (ps.zip us) → Vals vs us → sp vs H Q E →
    codeAny (model P w) A (.call (.ref f) args) (CR CX0 outer P w H s Q E) s
section
variable {P : Program} {w : World} {K : PySem.W.Frag} {mg : Str → Option Value} {base : Heap}
theorem fnG {x qual : Str} {st : Stmt} {f : Addr} {fd : FuncData} {N ps : List Str} {k : Nat} {S : List D → D → Prop} (F : Fun K x qual st f fd) (Sc : FnScope N ps (defScope st)) (len : ∀ ds d, S ds d → ds.length = ps.length)
    (body : ∀ (cdv : Value) (A : Around) (outer : List Env) (s : Shared) (H : Hp) (E : XK), A.guards = some [] → Room k (A.deeper (envOfC qual (defScope st) s.heap.objs.size f cdv)) →
      ∃ t, PSs (cxOf CX0 P w K mg base N qual (defScope st) f cdv A outer s H E).nox (defBody st) t ∧ ∀ ds d, S ds d → Sd K E0 t (startG N ds) (.rt d)) : FnG P w K mg base (k + 1) f fd ps (spR K S) := by
  have ln : ∀ vs H Q E, spR K S vs H Q E → vs.length = ps.length := fun vs H Q E h => by
    obtain ⟨F', ds, d, e, r, hs, q⟩ := h
    rw [r.len]
    exact len ds d hs
  obtain ⟨oc, od, kV, doc, pm, an, cdv, ct, osl, rfl, lk, hcd⟩ := F.ex
  refine ⟨ln, fun A outer s H args us vs Q E hr hG e0 hb r hsp => ?_⟩
  have hlv := ln _ _ _ _ hsp
  obtain ⟨F', ds, d, sF, rd, hs, q⟩ := hsp
  have KX : K.In s.heap := e0.mod.kin.keeps fun b o e => (e0.bs b o e).1
  have lim : s.heap.NoLimit := e0.mod.nolimit.keeps fun b o e => (e0.bs b o e).1
  have hkind : ∀ y ∈ ps.zip us, (defScope st).names.lookup y.1 = some .local ∨ ((defScope st).names.lookup y.1 = some .cell ∧ ((cellsFrom (s.heap.objs.size + 1) (defScope st).names []).lookup y.1).isSome = true) := by
    rintro ⟨n, v⟩ hy
    rcases Sc.par n (List.of_mem_zip hy).1 with z | z
    · exact .inl z
    · exact .inr ⟨z, PySem.W.cellsFrom_some _ _ _ (.inl z)⟩
  refine codeAny_call_function hr.depth (KX _ _ lk) rfl Sc.co Sc.gen rfl (PySem.W.codeRec_of KX hcd) (hb _ _ _ _ ?_)
  refine wpAny_newFunctionEnv_cells Sc.kind hkind fun env he s1 x => ?_
  subst he
  refine ⟨lim.keeps x.toInCall.keep, codeAny_func ?_⟩
  obtain ⟨t, ht, hq⟩ := body cdv A outer s H E hG (hr.deeper _)
  have I := inv_start (CX := CX0) (E := E) (f := f) (cd := cdv) Sc hr.hd e0 hlv r x
  refine wpAny_mono (ht.nox.run [] s1 (L2.start N vs) H _ I (run_rt (Q := Q) (hq ds d hs) sF rd q)) (fun fl s' hs => ?_) fun e s' hs => hs
  cases fl with
  | ret u =>
    obtain ⟨v, σ', H', J, rv, q'⟩ := hs
    exact ⟨v, H', J.os, J.bare, J.base, J.hok, rv, q'⟩
  | next =>
    obtain ⟨σ', H', J, q'⟩ := hs
    exact ⟨.non, H', J.os, J.bare, J.base, J.hok, rfl, q'⟩
  | brk =>
    obtain ⟨_, _, _, z⟩ := hs
    exact z.elim
  | cont =>
    obtain ⟨_, _, _, z⟩ := hs
    exact z.elim
theorem FnG.imp {f : Addr} {fd : FuncData} {ps : List Str} {k : Nat} {sp sp' : Sp} (F : FnG P w K mg base k f fd ps sp) (h : ∀ vs H Q E, sp' vs H Q E → sp vs H Q E) : FnG P w K mg base k f fd ps sp' :=
  ⟨fun vs H Q E z => F.len vs H Q E (h _ _ _ _ z), fun A outer s H args us vs Q E a b c d e z => F.run A outer s H args us vs Q E a b c d e (h _ _ _ _ z)⟩
end
structure ClG (P : Program) (w : World) (K : PySem.W.Frag) (mg : Str → Option Value) (base : Heap) (k : Nat) (x : Str) (sp : Sp) : Prop where
  ex : ∃ (f : Addr) (fd : FuncData) (ps : List Str), FnG P w K mg base k f fd ps sp ∧ mg x = some (.ref f) ∧ PySem.W.keepIn K (.ref f) = true ∧ Binds K fd ps []
theorem clG {P : Program} {w : World} {K : PySem.W.Frag} {mg : Str → Option Value} {base : Heap} {x : Str} {st : Stmt} {N ps : List Str} {k : Nat} {S : List D → D → Prop} (De : Df K mg x ps st) (Sc : FnScope N ps (defScope st)) (len : ∀ ds d, S ds d → ds.length = ps.length)
    (body : ∀ (f : Addr) (cdv : Value) (A : Around) (outer : List Env) (s : Shared) (H : Hp) (E : XK), A.guards = some [] → Room k (A.deeper (envOfC x (defScope st) s.heap.objs.size f cdv)) →
      ∃ t, PSs (cxOf CX0 P w K mg base N x (defScope st) f cdv A outer s H E).nox (defBody st) t ∧ ∀ ds d, S ds d → Sd K E0 t (startG N ds) (.rt d)) : ClG P w K mg base (k + 1) x (spR K S) := by
  obtain ⟨f, fd, F, hm, b⟩ := De.ex
  exact ⟨f, fd, ps, fnG F Sc len (body f), hm, F.kp, b⟩
section
variable {X : Cx} {k j : Nat} {x : Str} {sp : Sp} {p pos : Pos} {e : Expr} {es : List Expr} {t : TA}
theorem pclG (c : ClG X.prog X.w X.K X.mg X.base k x sp) (hG : X.A.guards = some []) (hr : Room j X.A) (hk : k ≤ j) (hg : Gl X x) (ha : PA X (e :: es) t)
    (hdb : (x == ("__debug__" : Str)) = false := by decide) (he : starEach (e :: es) X.env = (false, eval e X.env) :: starEach es X.env := by rfl) (hpl : (backTo pos (starEach es X.env)).any (·.1) = false := by rfl) :
    PE X (.Call (.Name x p) (e :: es) [] pos) (tCall sp [] E0 t) := by
  obtain ⟨f, fd, ps, F, hm, kp, b⟩ := c.ex
  refine ⟨fun pins s σ H Q I h => ?_⟩
  refine wpAny_Call_Name_kw (ld_glob I hg hm ?_ hdb)
  refine PySem.W.callWith_K (h₀ := X.base) I.ok.mod.kin kp (thn (ha.run pos pins s σ H _ I h) fun us s1 ⟨vs, H1, I1, r, q⟩ => ⟨I1.kIn, ?_⟩) he hpl
  have q' : sp (vs ++ []) H1 Q E0 := q
  rw [List.append_nil] at q'
  have hl : us.length = ps.length := by rw [← r.length]; exact F.len _ _ _ _ q'
  have bb := b s1 us I1.kIn (by rw [List.append_nil]; exact hl)
  rw [List.append_nil] at bb
  refine wpAny_call (codeAny_mono (F.run X.A X.stack s1 H1 ⟨us, []⟩ us vs Q E0 (hr.mono hk) hG I1.env0 bb r q') fun rs s' hq => ?_)
  cases rs with
  | error e => exact False.elim hq
  | ok fl =>
    cases fl with
    | ret u => exact I1.after hq
    | next => exact False.elim hq
    | brk => exact False.elim hq
    | cont => exact False.elim hq
end
/-! ### the law itself, called where no repr is under way -/
/-- the script's object, and nothing else, may be tracked -/
structure Scr (K : PySem.W.Frag) (h : Heap) (a : Addr) (o : Obj) (ns : List Int) (H : Hp) : Prop where
  seq : SqL K H a (ns.map V.int)
  only : ∀ b u, H b = some u → b = a ∧ u = .frz o (.lst (ns.map V.int)) ∧ K.lookup a = none
theorem Scr.none_of {K : PySem.W.Frag} {h : Heap} {a : Addr} {o : Obj} {ns : List Int} {H : Hp} (S : Scr K h a o ns H) {b : Addr} (n : b ≠ a) : H b = none := by
  cases q : H b with
  | none => rfl
  | some u => exact absurd (S.only b u q).1 n
theorem scr_mk {P : Program} {w : World} {K : PySem.W.Frag} {h : Heap} {a : Addr} {vs : List Value} {ns : List Int} (KX : K.In h) (ha : h.get? a = some { cls := .type "list", data := .seq vs.toArray }) (hi : IntsAre vs ns) (hl : ns.length ≤ sizeLine) :
    ∃ H : Hp, Scr K h a { cls := .type "list", data := .seq vs.toArray } ns H ∧ HOk P w H h := by
  have rv := vals_ints hi
  have lv := hi.length
  cases hk : K.lookup a with
  | some o =>
    have e := KX a o hk
    rw [ha] at e
    cases e
    exact ⟨fun _ => none, ⟨.inr ⟨_, vs.toArray, _, hk, rfl, rfl, rfl, by rw [List.size_toArray, lv]; exact hl, by simpa using rv⟩, fun b u z => nomatch z⟩, fun b u z => nomatch z⟩
  | none =>
    let u : HO := .frz { cls := .type "list", data := .seq vs.toArray } (.lst (ns.map V.int))
    have get : ∀ b v, (if b = a then some u else none) = some v → b = a ∧ v = u := fun b v z => by
      by_cases hb : b = a
      · rw [if_pos hb] at z
        cases z
        exact ⟨hb, rfl⟩
      · rw [if_neg hb] at z
        cases z
    refine ⟨fun b => if b = a then some u else none, ⟨.inl (.inr ⟨_, if_pos rfl⟩), fun b v z => ?_⟩, fun b v z => ?_⟩
    · obtain ⟨e1, e2⟩ := get b v z
      exact ⟨e1, e2, hk⟩
    · obtain ⟨rfl, rfl⟩ := get b v z
      exact ⟨ha, by rw [List.length_map]; exact hl, vs, _, rv, ha⟩
theorem law_callG {P : Program} {w : World} {K : PySem.W.Frag} {mg mb : Str → Option Value} {k : Nat} {fa a : Addr} {fd : FuncData} {x : Str} {s : Shared} {vs : List Value} {ns : List Int}
    (KX : K.In s.heap) (hns : s.heap.Ns mainGlobals mg) (hb : s.heap.Ns builtinsNs mb) (hbb : ∀ x : Str, x ≠ "__name__" → mb x = bootBuiltins x) (hlim : s.heap.NoLimit) (hg : s.gens = #[])
    (ha : s.heap.get? a = some { cls := .type "list", data := .seq vs.toArray }) (hi : IntsAre vs ns) (hl : ns.length ≤ 63) (hbits : ∀ z ∈ ns, Builtin.Int.intBits z ≤ 1048576) (hr : Room k callerA)
    (F : ∀ base : Heap, K.In base → base.Ns mainGlobals mg → FnG P w K mg base k fa fd [x] (spLaw K)) (hbind : ∀ (s : Shared) (u : Value), BindsTo s fd ⟨[u], []⟩ [(x, u)]) :
    codeAny (model P w) callerA (.call (.ref fa) ⟨[.ref a], []⟩) (fun r s' => r = .ok (.ret (.bool true)) ∧ OldK s.heap s'.heap ∧ s'.os = s.os ∧ AllBare s'.gens) s := by
  obtain ⟨H, S, hok⟩ := scr_mk (P := P) (w := w) KX ha hi (Nat.le_trans hl (by decide))
  -- what is not the script is seen below
  have below : ∀ {b : Addr} {o : Obj}, s.heap.get? b = some o → H b = none → (hidT s.heap H).get? b = some o := fun e n => hidT_get e n
  have ns_below : ∀ {b : Addr} {m : Str → Option Value}, s.heap.Ns b m → (hidT s.heap H).Ns b m := by
    rintro b m ⟨o, es, ep, e, d, r⟩
    refine ⟨o, es, ep, below e (S.none_of fun z => ?_), d, r⟩
    subst z
    rw [ha] at e
    cases e
    cases d
  have k_below : K.In (hidT s.heap H) := fun b o e => below (KX b o e) (by
    cases q : H b with
    | none => rfl
    | some u =>
      obtain ⟨rfl, _, z⟩ := S.only b u q
      rw [z] at e
      cases e)
  obtain ⟨mc, l1, l2⟩ := hlim
  have md : Mod K mg (hidT s.heap H) := ⟨k_below, ns_below hns, ⟨mb, ns_below hb, hbb⟩, ⟨mc, ns_below l1, l2⟩⟩
  have e0 : Env0 P w K mg (hidT s.heap H) callerA [] s H :=
    { frames := rfl, mod := md, bs := fun b o e => of_hidT e, bsz := Nat.le_of_eq (hidT_size _ _), funs := trivial, frf := (fun b z => nomatch z), hok := hok, bare := .of_eq hg }
  have run := (F _ k_below (ns_below hns)).run callerA [] s H ⟨[.ref a], []⟩ [.ref a] [.ref a] (fun v _ => v = .bl true) (fun _ _ _ => False) hr rfl e0 (hbind s (.ref a)) (.cons rfl .nil) ⟨a, ns, rfl, S.seq, hl, hbits, fun _ => rfl⟩
  refine codeAny_mono run fun r s' h => ?_
  match r, h with
  | .error e, h => exact False.elim h
  | .ok .next, h => exact False.elim h
  | .ok .brk, h => exact False.elim h
  | .ok .cont, h => exact False.elim h
  | .ok (.ret u), ⟨v, H', os, bare, un, hok', rv, q⟩ =>
    cases (show v = .bl true from q)
    cases (show u = Value.bool true from rv)
    refine ⟨rfl, OldK.of_keep fun b o e => ?_, os, bare⟩
    cases q : H b with
    | none => exact un.keep b o e q (fun z => by cases z) (fun z => by cases z)
    | some v =>
      obtain ⟨rfl, rfl, _⟩ := S.only b v q
      have g1 := (hok _ _ q).1
      have g2 := (hok' _ _ (un.frzs _ _ _ q)).1
      rw [e] at g1
      cases g1
      exact g2
theorem walkG {l : PySem.W.OpenLaw} {k : Nat} {q : Program} {loose : List Str} {XP : (Str → Option Value) → Heap → Prop} {YP : World → Heap → Prop} {d : DefRec} {K : Params → PySem.W.Frag} {x : Str}
    (hn : l.most = some 63) (hdf : d.params.defaults = []) (hr : Room k callerA) (hY : ∀ (w : World) (h : Heap), YP w h → (K w.params).In h)
    (F : ∀ (w : World) (mg : Str → Option Value) (fa : Addr) (h : Heap), (K w.params).In h → h.Ns mainGlobals mg → mg d.name = some (.ref fa) →
      ∃ fd : FuncData, (∀ (s : Shared) (u : Value), BindsTo s fd ⟨[u], []⟩ [(x, u)]) ∧ ∀ base : Heap, (K w.params).In base → base.Ns mainGlobals mg → FnG l.prog w (K w.params) mg base k fa fd [x] (spLaw (K w.params))) :
    PySem.W.WalkO q loose XP YP l.row.toRowW d [] (fun f vs => PySem.call f vs) := by
  refine Att.attach_callB hn hdf fun w s₀ s₁ mg mb fa o pm cd doc a vs ns G Y ho hd hcd hmg hobj hints hlen hbits hg => ?_
  obtain ⟨fd, hb, hF⟩ := F w mg fa _ (hY w _ Y) G.T.g hmg
  exact law_callG (hY w _ Y) G.T.g G.T.b G.T.builtins G.T.nolimit hg hobj hints hlen hbits hr hF hb
theorem fnLawG {P : Program} {w : World} {K : PySem.W.Frag} {mg : Str → Option Value} {base : Heap} {x qual : Str} {st : Stmt} {f : Addr} {fd : FuncData} {N ps : List Str} {k : Nat} (F : Fun K x qual st f fd) (sc : FnScope N ps (defScope st)) (h1 : ps.length = 1)
    (body : ∀ (cdv : Value) (A : Around) (outer : List Env) (s : Shared) (H : Hp) (E : XK), A.guards = some [] → Room k (A.deeper (envOfC qual (defScope st) s.heap.objs.size f cdv)) →
      ∃ t, PSs (cxOf CX0 P w K mg base N qual (defScope st) f cdv A outer s H E).nox (defBody st) t ∧ ∀ ns : List Int, ns.length ≤ 63 → (∀ z ∈ ns, Builtin.Int.intBits z ≤ 1048576) → Sd K E0 t (startG N [.scr ns]) (.rt (.bl true))) : FnG P w K mg base (k + 1) f fd ps (spLaw K) :=
  (fnG (S := Slaw) F sc (fun ds d h => by obtain ⟨ns, rfl, _⟩ := h; exact h1.symm) fun cdv A outer s H E hG hr => by
    obtain ⟨t, ht, hd⟩ := body cdv A outer s H E hG hr
    exact ⟨t, ht, fun ds d h => by obtain ⟨ns, rfl, a, b, rfl⟩ := h; exact hd ns a b⟩).imp law_imp
/-! ### x[::-1] of a text -/
def tRevS (te : TE) : TE := fun σ H Q => te σ H fun x H1 => ∃ z : Str, x = .str z ∧ z.length ≤ sizeLine ∧ Q (.str ⟨z.cps.toList.reverse.toArray⟩) H1
theorem rev_ix (z : Str) : ((Builtin.Str.strSliceIndices none none (-1) z.length).filterMap (z.cps[·]?)).toArray = z.cps.toList.reverse.toArray := by
  have e1 : Builtin.Str.strSliceIndices none none (-1) z.length = (List.range z.length).reverse := by
    show sliceRange ((z.length : Int) - 1) (-1) (-1) = _
    rw [PySem.W.krv_sliceRange, PySem.W.krv_range]
  rw [e1, List.filterMap_reverse]
  congr 2
  exact PySem.W.krv_all z.cps
theorem pe_revS {X : Cx} {e : Expr} {te : TE} {k : Nat} {p1 p2 p3 pos : Pos} (he : PE X e te) : PE X (.Subscript e (.Slice none none (some (.UnaryOp .USub (.Constant (.int 1) k p1) p2)) p3) pos) (tRevS te) := by
  have hst : PO X (some (.UnaryOp .USub (.Constant (.int 1) k p1) p2)) (tPart (tUn (rU fun i => .int (-i)) (tC (.int 1)))) := po_some (pe_un un_neg pe_int)
  refine ⟨fun pins s σ H Q I h => ?_⟩
  refine Subscript_ (thn (he.run pins s σ H _ I h) fun v s1 ⟨x, H1, I1, r1, q1⟩ => ?_)
  obtain ⟨z, rfl, hz, q⟩ := q1
  obtain ⟨t, rfl⟩ := r1
  refine wpAny_Slice (thn (po_none.run pins s1 σ H1 (fun o H2 => o = none ∧ H2 = H1) I1 ⟨rfl, rfl⟩) fun vl s2 ⟨l, H2, I2, pl, e1, e2⟩ => ?_)
  subst e1 e2
  refine thn (po_none.run pins s2 σ H2 (fun o H3 => o = none ∧ H3 = H2) I2 ⟨rfl, rfl⟩) fun vu s3 ⟨u, H3, I3, pu, e3, e4⟩ => ?_
  subst e3 e4
  refine thn (hst.run pins s3 σ H3 (fun o H4 => o = some (-1) ∧ H4 = H3) I3 ⟨1, rfl, -1, rfl, rfl, rfl⟩) fun vs s4 ⟨o, H4, I4, ps, e5, e6⟩ => ?_
  subst e5 e6
  obtain ⟨l1, rfl, hl1⟩ := IsPart.raw pl
  obtain ⟨u1, rfl, hu1⟩ := IsPart.raw pu
  obtain ⟨st, rfl, hst1⟩ := IsPart.raw ps
  have I5 : Inv X pins σ H4 { s4 with heap := s4.heap.push { cls := .type "slice", data := .fields #[partValue l1, partValue u1, partValue st] } } := I4.kept (t' := s4.toks) fun b ob q => Heap.get?_push_of_some _ q
  show wpAny (model X.prog X.w) X.A (subscriptTail e (.Slice none none (some (.UnaryOp .USub (.Constant (.int 1) k p1) p2)) p3) (.str z t) (.ref s4.heap.objs.size)) (EP X pins σ Q) X.xe { s4 with heap := s4.heap.push { cls := .type "slice", data := .fields #[partValue l1, partValue u1, partValue st] } }
  refine tail_any (ops := [.ref s4.heap.objs.size, .str z t]) (typeIs_str _ _ _) (PySem.F.slot_str_getitem.lookup) ?_ (by with_unfolding_all rfl)
  refine wpAny_getItem_str_slice (l := l1) (u := u1) (st := st) ⟨_, Heap.get?_push_size _ rfl, rfl, rfl⟩ (by rw [hst1]; rfl) ?_
  have hm : sliceMade z t l1 u1 st = Made.str ⟨z.cps.toList.reverse.toArray⟩ := by
    unfold sliceMade slicePicked
    rw [hst1, hl1, hu1]
    show (if ((-1 : Int) == 1 && _) = true then _ else Made.str ⟨((Builtin.Str.strSliceIndices none none (-1) z.length).filterMap (z.cps[·]?)).toArray⟩) = _
    rw [if_neg (by rw [show ((-1 : Int) == 1) = false from rfl, Bool.false_and]; decide)]
    exact congrArg (fun a => Made.str ⟨a⟩) (rev_ix z)
  rw [hm]
  refine ⟨?_, .str _, H4, I5.tok _, ⟨_, rfl⟩, q⟩
  show (z.cps.toList.reverse.toArray).size ≤ sizeLine
  rw [List.size_toArray, List.length_reverse, Array.length_toList]
  exact hz
theorem ed_revS {K : PySem.W.Frag} {Γ : Gam} {te : TE} {z : Str} (h : Ed K te Γ (.str z)) (hz : z.length ≤ 100000) : Ed K (tRevS te) Γ (.str ⟨z.cps.toList.reverse.toArray⟩) := fun F0 H0 F H σ ok Q q => h F0 H0 F H σ ok _ fun v F1 H1 g1 r1 => by
  cases r1
  exact ⟨z, rfl, Nat.le_trans hz (by decide), q _ F1 H1 g1 (.str _)⟩
/-! ### isinstance of an own class -/
structure Tin (K : PySem.W.Frag) (C : Addr) : Prop where
  cl : Cls K C
  ha : PySem.W.findIn K (.ref C) "__class__" = some (some (.builtin "object.__class__"))
  hn : PySem.W.specialIn K (.builtin "object.__class__") "__get__" = some (some (.builtin "getset_descriptor.__get__"))
  ht : PySem.W.takesIn K (.builtin "object.__class__") = some true
  hm : PySem.W.mroIn K C (.type "object") = some true
theorem rc_isO {K : PySem.W.Frag} {C : Addr} {gs : List (Str × D)} (t : Tin K C) : RcD K (rIsi K) [.ins C gs, .adr C] (.bl true) :=
  rc_isiC (t := .ref C) (fun F H v s r => by
    cases r with
    | ins h _ => exact .base (.ins (s _ _ h) t.cl t.ha t.hn t.ht t.hm)) kit_self
end DL

namespace DL
open PySem PySem.Spec PyProof.Rows L2 PySem.Calls
/-! ### list(text): its signs -/
section
variable {prog : Program} {w : World} {A : Around} {E : Value → Shared → Prop} {s : Shared}
theorem hintS {z : Str} {tt : Tok} {G : Bool → Shared → Prop} (g : G false s) : wpAny (model prog w) A (Builtin.List.listLengthHint (.str z tt)) G E s := by
  have ty : s.TypeIs (.str z tt) "str" := typeIs_str s z tt
  unfold Builtin.List.listLengthHint
  refine wpAny_bind (wpAny_specialOf ty PySem.F.slot_str_len.lookup ?_)
  generalize nm : ("str.__len__" : String) = i1
  wp_delta
  rw [show splitId i1 = some ("str", "__len__") from by subst nm; decide +kernel]
  subst nm
  refine wpAny_bind (wpAny_isInstance (T := "str") (b := true) ty (by rw [isSubtype_type]; kernel_rfl) ?_)
  refine wpAny_ite_split (fun q => absurd q (by decide)) (fun _ => ?_)
  refine wpAny_ite_split (fun _ => ?_) (fun q => absurd (by decide +kernel) q)
  refine wpAny_bind (wpAny_typeOf ty ?_)
  exact wpAny_pure g
theorem iterS {z : Str} {tt : Tok} : ∃ (T : String) (oI : Obj), (∀ (A : Around) (E : Value → Shared → Prop) (s : Shared) (G : Value → Shared → Prop), G (.ref s.heap.objs.size) { s with heap := s.heap.push oI } → wpAny (model prog w) A (pyIter (.str z tt)) G E s) ∧
    (∀ (A : Around) (I : Addr), A.handled = none → Walks prog w A I [I] [I] z.cps.size (SignAt z) (fun i h => h.IsStrIter I T z tt i)) ∧ ∀ h : Heap, (h.push oI).IsStrIter h.objs.size T z tt 0 := by
  cases ha : z.cps.all (· < 128)
  · exact ⟨"str_iterator", _, fun A E s G g => wpAny_pyIter_wide ha g, fun A I hh => Walks.strWide hh I z tt, fun h => ⟨_, Heap.get?_push_size _ rfl, rfl, rfl⟩⟩
  · exact ⟨"str_ascii_iterator", _, fun A E s G g => wpAny_pyIter_ascii ha g, fun A I hh => Walks.strAscii hh I z tt, fun h => ⟨_, Heap.get?_push_size _ rfl, rfl, rfl⟩⟩
theorem extS {Rr : Result → Shared → Prop} (hh : A.handled = none) (z : Str) (tt : Tok) (l0 : Addr) (rs : Value) (k0 : Nat) (hl0 : s.heap.get? l0 = some { cls := .type "list", data := .seq #[] k0 })
    (fin : ∀ g tk ac kc, (∀ b o, b ≠ l0 → s.heap.get? b = some o → g.get? b = some o) → g.get? l0 = some { cls := .type "list", dict := none, data := .seq ac kc, slots := #[] } → ItemsOf (SignAt z) ac z.cps.size → Rr (.ok (.ret rs)) { s with heap := g, toks := tk }) (few : z.cps.size ≤ sizeLine) :
    wpAny (model prog w) A.in1 (Builtin.List.listExtendWith (.ref l0) (.str z tt) rs) (fun fi st => match fi with | .done f => Rr (.ok f) st | .again cc => cc.quiet = true ∧ codeAny (model prog w) A cc Rr st) (fun e st => Rr (.error e) st) s := by
  have n1 : l0 ≠ s.heap.objs.size := Nat.ne_of_lt (Heap.lt_size hl0)
  have n2 : l0 ∉ [s.heap.objs.size] := fun hm => n1 (List.mem_singleton.mp hm)
  obtain ⟨T, oI, it, wk, st0⟩ := iterS (prog := prog) (w := w) (z := z) (tt := tt)
  unfold Builtin.List.listExtendWith
  refine wpAny_bind (wpAny_typeOf (T := "str") (v := .str z tt) (typeIs_str s z tt) ?_)
  have e1 : Builtin.List.listSameRef (.ref l0) (.str z tt) = false := rfl
  have e2 : (Value.type "str" == Value.type "list") = false := by decide
  have e3 : (Value.type "str" == Value.type "tuple") = false := by decide
  simp only [e1, e2, e3, Bool.or_false, Bool.false_eq_true, if_false]
  refine wpAny_bind (it _ _ _ _ ?_)
  refine wpAny_bind (wpAny_holding (hintS ?_))
  rw [if_neg (by first | decide | decide +kernel)]
  have W := wk A.in1 s.heap.objs.size hh
  refine wpAny_pure ⟨plainId_quiet PySem.F.plain_extend_loop _, codeAny_extend_loopS W.toS few _ n2 _ z.cps.size 0 _ _ _ rfl (Nat.zero_le _) (st0 s.heap) (Heap.get?_push_of_some _ hl0) (ItemsOf.nil _) fun st ac kc mv hS' hac => ?_⟩
  rw [Moved.eq_with mv]
  refine fin st.heap st.toks ac kc (fun b ob hb e => mv.heap b ob (fun mem => ?_) (Heap.get?_push_of_some _ e)) hS' hac
  rcases List.mem_cons.mp mem with e' | mem
  · exact hb e'
  · exact absurd (Heap.lt_size e) (by rw [List.mem_singleton.mp mem]; exact Nat.lt_irrefl _)
theorem initS {Rr : Result → Shared → Prop} (hh : A.handled = none) (z : Str) (tt : Tok) (l0 : Addr) (hl0 : s.heap.get? l0 = some { cls := .type "list", data := .seq #[] })
    (fin : ∀ g tk ac kc, (∀ b o, b ≠ l0 → s.heap.get? b = some o → g.get? b = some o) → g.get? l0 = some { cls := .type "list", dict := none, data := .seq ac kc, slots := #[] } → ItemsOf (SignAt z) ac z.cps.size → Rr (.ok (.ret .none)) { s with heap := g, toks := tk }) (few : z.cps.size ≤ sizeLine) :
    wpAny (model prog w) A.in1 (Builtin.«list.__init__» ⟨[.ref l0, .str z tt], []⟩) (fun fi st => match fi with | .done f => Rr (.ok f) st | .again cc => cc.quiet = true ∧ codeAny (model prog w) A cc Rr st) (fun e st => Rr (.error e) st) s := by
  show wpAny _ _ (do let was ← Builtin.List.listItems (.ref l0); Builtin.List.listUpdate (.ref l0) (fun _ => #[]); letGo was.toList.reverse; Builtin.List.listExtendWith (.ref l0) (.str z tt) .none) _ _ s
  refine wpAny_bind ?_
  unfold Builtin.List.listItems
  refine wpAny_bind (wpAny_seqItems hl0 rfl (wpAny_pure ?_))
  show wpAny _ _ (updateSeq l0 (fun _ => #[]) >>= fun _ => letGo (#[] : Array Value).toList.reverse >>= fun _ => Builtin.List.listExtendWith (.ref l0) (.str z tt) .none) _ _ s
  refine wpAny_bind (wpAny_updateSeq hl0 rfl ?_)
  have up := Heap.get?_update_self (Obj.mapSeq (fun _ => (#[] : Array Value))) hl0 rfl
  have ot : ∀ b o, b ≠ l0 → s.heap.get? b = some o → (s.heap.update l0 (Obj.mapSeq (fun _ => (#[] : Array Value)))).get? b = some o := fun b o hb e => (Heap.get?_update_other _ _ (Ne.symm hb)).trans e
  refine wpAny_bind (wpAny_letGo ?_)
  refine extS hh z tt l0 .none _ up (fun g tk ac kc hk up' hac => ?_) few
  exact fin g tk ac kc (fun b o hb e => hk b o hb (ot b o hb e)) up' hac
theorem list_str {z : Str} {tt : Tok} {G : Value → Shared → Prop} (hh : A.handled = none) (few : z.cps.size ≤ sizeLine)
    (fin : ∀ g tk ac kc, (∀ b o, s.heap.get? b = some o → g.get? b = some o) → g.get? s.heap.objs.size = some { cls := .type "list", dict := none, data := .seq ac kc, slots := #[] } → ItemsOf (SignAt z) ac z.cps.size → G (.ref s.heap.objs.size) { s with heap := g, toks := tk }) :
    wpAny (model prog w) A (call (.type "list") [.str z tt]) G E s := by
  refine callType_codes (Q₁ := fun ob st => ob = .ref s.heap.objs.size ∧ st = { s with heap := s.heap.push { cls := .type "list", data := .seq #[] } }) PySem.F.called_list (PySem.F.typeCall_list_1 _) PySem.F.entry_list_init (code_list_new _ ⟨rfl, rfl⟩) fun ob st h1 => ?_
  obtain ⟨rfl, rfl⟩ := h1
  have at0 : (s.heap.push { cls := .type "list", data := .seq #[] }).get? s.heap.objs.size = some { cls := .type "list", data := .seq #[] } := Heap.get?_push_size _ rfl
  refine ⟨⟨_, at0, rfl⟩, PySem.F.args_list_init_2 _ _, initS (A := A.in1) hh z tt _ at0 (fun g tk ac kc hk up hac => ?_) few⟩
  exact ⟨rfl, fin g tk ac kc (fun b o e => hk b o (Nat.ne_of_lt (Heap.lt_size e)) (Heap.get?_push_of_some _ e)) up hac⟩
end
def sgnV (z : Str) : List V := z.cps.toList.map fun c => V.str ⟨#[c]⟩
def rListS : List V → Hp → VK → Prop := fun xs H Q => ∃ z : Str, xs = [.str z] ∧ z.cps.size ≤ sizeLine ∧ ∀ q, H q = none → Q (.ref q) (upd H q (.lst (sgnV z)))
theorem call_listStr {X : Cx} (hc : X.calm = true) : CallR X (.type "list") rListS := by
  intro pins s σ H xs us Q I r h
  obtain ⟨z, rfl, few, q⟩ := h
  obtain ⟨u, rfl, rx⟩ := vals1 r
  obtain ⟨tt, rfl⟩ := rx
  refine list_str (I.ok.hd hc) few fun g tk ac kc hk up hac => ?_
  have hl : (sgnV z).length = z.cps.size := by simp [sgnV]
  refine ⟨.ref s.heap.objs.size, upd H s.heap.objs.size (.lst (sgnV z)), I.laid hk (Nat.le_refl _) (show ObjOk X.prog X.w _ _ _ (.lst (sgnV z)) from ⟨?_, ac.toList, kc, ?_, ?_⟩), rfl, q _ (I.hok.fresh (Nat.le_refl _))⟩
  · rw [hl]; exact few
  · have el : ac.toList.length = ac.size := by simp
    refine vals_of_at (by rw [hl, el, hac.1]) fun j x w0 h1 h2 => ?_
    obtain ⟨c, u, hcx, rfl⟩ := hac.2 j w0 (by rw [← Array.getElem?_toList]; exact h2)
    have e2 : (sgnV z)[j]? = some (V.str ⟨#[c]⟩) := by
      unfold sgnV
      rw [List.getElem?_map, Array.getElem?_toList, hcx] <;> rfl
    rw [e2] at h1
    cases h1
    exact ⟨u, rfl⟩
  · rw [Array.toArray_toList]; exact up
theorem callListS {X : Cx} (hc : X.calm = true) : CallR X (.type "list") rListS := call_listStr hc
/-! ### what is never reached -/
theorem pss_dead {X : Cx} {sts : List Stmt} : PSs X sts (fun _ _ _ => False) := ⟨fun _ _ _ _ _ _ h => h.elim⟩
section
variable {K : PySem.W.Frag} {Γ : Gam} {te : TE} {W : WX} {C : Addr} {sp : Sp} {dvs : List V}
theorem rpa_sgn {F : Hp} : ∀ l : List Nat, RpA K F (l.map fun c => V.str ⟨#[c]⟩) (l.map fun c => D.str ⟨#[c]⟩)
  | [] => .nil
  | c :: l => .cons (.str _) (rpa_sgn l)
theorem rc_listS {z : Str} (hz : z.length ≤ 100000) : RcD K rListS [.str z] (.lst (sgn z)) := fun F H vs s r Q q => by
  cases r with
  | cons r rr =>
    cases rr
    cases r
    refine ⟨z, rfl, Nat.le_trans hz (by decide), fun l hl => ?_⟩
    have g := Gr.new (o := .lst (sgnV z)) s hl
    refine q _ _ _ g (.lst upd_same ?_)
    exact rpa_sgn _
theorem rpa_strs {F : Hp} : ∀ xs : List Str, RpA K F (xs.map V.str) (xs.map D.str)
  | [] => .nil
  | x :: xs => .cons (.str x) (rpa_strs xs)
/-- sorted(list of texts): the one way to lay them -/
theorem rc_sortedS {xs ys : List Str} (hl : xs.length < 64) (h : ∀ zs : List Str, zs.Perm xs → sortedS zs = true → zs = ys) : RcD K (rSortedS K) [.lst (xs.map .str)] (.lst (ys.map .str)) := fun F H vs s r Q q => by
  cases r with
  | cons r rr =>
    cases rr
    cases r with
    | @lst a us _ ha ra =>
      have e := RpA.strs ra
      subst e
      refine ⟨a, xs, rfl, .inl (.inl (s _ _ ha)), hl, fun zs p hp hs hn => ?_⟩
      have ez := h zs hp hs
      subst ez
      have g := Gr.new (o := .lst (zs.map V.str)) s hn
      exact q _ _ _ g (.lst upd_same (rpa_strs zs))
theorem r2_notIn {c : Nat} {z : Str} : R2D K (fun x y H Q => ∃ (c : Nat) (z : Str), x = .str ⟨#[c]⟩ ∧ y = .str z ∧ Q (.bl (!decide (c ∈ z.cps.toList))) H) (.str ⟨#[c]⟩) (.str z) (.bl (!decide (c ∈ z.cps.toList))) := fun F H v w s rv rw Q q => by
  cases rv; cases rw
  exact ⟨c, z, rfl, rfl, q _ F H (Gr.refl s) (.bl _)⟩
theorem xw_arg1 {E : XK} (h : XdW K W te Γ C) : XdW K W (tCall sp dvs E (tCons te tNil)) Γ C := fun F0 H0 F H σ ok fin Q => h F0 H0 F H σ ok fin _
end
/-- two classes are caught -/
def W2 (C1 C2 : Addr) (d1 d2 : D) : Addr → Option D := fun C => if C = C1 then some d1 else if C = C2 then some d2 else none
theorem W2_one {C1 C2 : Addr} {d1 d2 : D} : W2 C1 C2 d1 d2 C1 = some d1 := if_pos rfl
theorem W2_two {C1 C2 : Addr} {d1 d2 : D} (n : C2 ≠ C1) : W2 C1 C2 d1 d2 C2 = some d2 := by
  unfold W2
  rw [if_neg n, if_pos rfl]
theorem W2_ok {P : Program} {w : World} {K : PySem.W.Frag} {mg : Str → Option Value} {base : Heap} {k : Nat} {x : Str} {C1 C2 : Addr} {d1 d2 : D} (c1 : ClE P w K mg base k x C1 d1) (c2 : ClE P w K mg base k x C2 d2) : ∀ C d, W2 C1 C2 d1 d2 C = some d → ClE P w K mg base k x C d := fun C d h => by
  unfold W2 at h
  by_cases e : C = C1
  · subst e
    rw [if_pos rfl] at h
    cases h
    exact c1
  · rw [if_neg e] at h
    by_cases e' : C = C2
    · subst e'
      rw [if_pos rfl] at h
      cases h
      exact c2
    · rw [if_neg e'] at h
      cases h
theorem kit_ne {K : PySem.W.Frag} {C C' : Addr} (h : PySem.W.kitOne K (.ref C) (.ref C') = some false) : C ≠ C' := fun e => by
  subst e
  rw [kit_self] at h
  cases h
end DL

namespace DL
open PySem PySem.Spec PyProof.Rows L2
/-! ### more about texts -/
def rMulS : R2 := fun x y H Q => ∃ (a : Str) (n : Int), x = .str a ∧ y = .int n ∧ MulOk a n ∧ Q (.str (Txt.mul a n)) H
theorem op_mulS {X : Cx} : OpR X (binaryOp .Mult) rMulS := by
  intro pins s σ H x y v u Q I rx ry h
  obtain ⟨a, n, rfl, rfl, ok, q⟩ := h
  obtain ⟨t, rfl⟩ := rx
  obtain ⟨t', rfl⟩ := ry
  exact PySem.SB.mul ok fun t'' k => ⟨.str _, H, I.tok _, ⟨_, rfl⟩, q⟩
section
variable {K : PySem.W.Frag} {Γ : Gam} {to te : TE} {a b : Str} {d : D}
theorem r2_mulS {n : Int} (h : MulOk a n) : R2D K rMulS (.str a) (.int n) (.str (Txt.mul a n)) := fun F H v w s rv rw Q q => by
  cases rv; cases rw
  exact ⟨a, n, rfl, rfl, h, q _ F H (Gr.refl s) (.str _)⟩
theorem rc_strI {i : Int} (h : i.natAbs.log2 < 1920) : RcD K (fun xs H Q => ∃ i, xs = [.int i] ∧ i.natAbs.log2 < 1920 ∧ Q (.str (toString i)) H) [.int i] (.str (Str.ofString (toString i))) := fun F H vs s r Q q => by
  have e := RpA.ints (ns := [i]) r
  exact ⟨i, e, h, q _ F H (Gr.refl s) (.str _)⟩
theorem ed_split (h : Ed K to Γ (.str a)) (h2 : Ed K te Γ (.str b)) (hb : (b.length == 0) = false) (hl : a.length ≤ 100000) :
    Ed K (tM1 (fun x xs H Q => ∃ a b, x = .str a ∧ xs = [.str b] ∧ (b.length == 0) = false ∧ a.length + 2 ≤ sizeLine ∧ rNewStrs (Txt.split a b) H Q) to te) Γ (.lst ((Txt.split a b).map .str)) := fun F0 H0 F H σ ok Q q => h F0 H0 F H σ ok _ fun v F1 H1 g1 r1 => by
  cases r1
  refine ⟨⟨a, rfl⟩, h2 F0 H0 F1 H1 σ (ok.grow g1) _ fun w F2 H2 g2 r2 => ?_⟩
  cases r2
  refine ⟨a, b, rfl, rfl, hb, Nat.le_trans (Nat.add_le_add_right hl 2) (by decide), fun p hp => ?_⟩
  have g3 := g1.trans g2
  have g := Gr.new (o := .lst ((Txt.split a b).map V.str)) g3.s hp
  exact q _ _ _ (g3.trans g) (.lst upd_same (rpa_strs _))
theorem ed_count (h : Ed K to Γ (.str a)) (h2 : Ed K te Γ (.str b)) : Ed K (tM1 (fun x xs H Q => ∃ a b, x = .str a ∧ xs = [.str b] ∧ Q (.int (Txt.count a b)) H) to te) Γ (.int (Txt.count a b)) := fun F0 H0 F H σ ok Q q => h F0 H0 F H σ ok _ fun v F1 H1 g1 r1 => by
  cases r1
  refine ⟨⟨a, rfl⟩, h2 F0 H0 F1 H1 σ (ok.grow g1) _ fun w F2 H2 g2 r2 => ?_⟩
  cases r2
  exact ⟨a, b, rfl, rfl, q _ F2 H2 (g1.trans g2) (.int _)⟩
def isNon : D → Bool
  | .non => true
  | _ => false
theorem ed_isN (h : Ed K te Γ d) : Ed K (tIsN te) Γ (.bl (isNon d)) := fun F0 H0 F H σ ok Q q => h F0 H0 F H σ ok _ fun v F1 H1 g1 r1 => by
  have e : decide (v = .non) = isNon d := by cases r1 <;> rfl
  show Q (.bl (decide (v = .non))) H1
  rw [e]
  exact q _ F1 H1 g1 (.bl _)
theorem ed_notN (h : Ed K te Γ d) : Ed K (tNotN te) Γ (.bl (!isNon d)) := fun F0 H0 F H σ ok Q q => h F0 H0 F H σ ok _ fun v F1 H1 g1 r1 => by
  have e : (!decide (v = .non)) = !isNon d := by cases r1 <;> rfl
  show Q (.bl (!decide (v = .non))) H1
  rw [e]
  exact q _ F1 H1 g1 (.bl _)
theorem et_notN (h : Ed K te Γ d) : Et K (tB (tNotN te)) Γ (!isNon d) := et_B (ed_notN h)
theorem et_isN (h : Ed K te Γ d) : Et K (tB (tIsN te)) Γ (isNon d) := et_B (ed_isN h)
theorem et_chain {r r' : R2} {ta tb tc : TE} {dx dy dz : D} {p q : Bool} (ha : Ed K ta Γ dx) (hb : Ed K tb Γ dy) (h1 : R2D K r dx dy (.bl p)) (h2 : p = true → Ed K tc Γ dz ∧ R2D K r' dy dz (.bl q)) : Et K (tTest (tChain r r' ta tb tc)) Γ (p && q) := et_test (ed_chain ha hb h1 h2)
end
end DL

namespace DL
open PySem PySem.Spec PyProof.Rows L2
/-! ### making an instance inside a try -/
def tMakeS (C : Addr) (sp : Sp) (E : L2.St → XK) (t : TA) : TE := fun σ H Q => t σ H fun vs H1 => ∀ x dx, H1 x = none → H1 dx = none → dx ≠ x →
  sp (.ref x :: vs) (upd (upd H1 dx (.own x)) x (.ins C dx [])) (fun v H2 => v = .non ∧ Q (.ref x) H2) (E σ)
section
variable {X : Cx} {CX : CXT} {k j : Nat} {f C : Addr} {fd : FuncData} {ps : List Str} {sp : Sp} {E : L2.St → XK} {x : Str} {p pos : Pos} {e : Expr} {es : List Expr} {t : TA}
theorem run_makeS {pins : List (Addr × Obj)} {σ : L2.St} {H : Hp} {s : Shared} {Q : VK} {us : List Value} {vs : List V} (M : Mk X.K C f) (F : FnOk X.prog X.w X.K X.mg X.base CX k f fd ps sp) (hr : Room (k + 1) X.A) (hb : Binds X.K fd ps [])
    (hx : PassesAt CX X σ (E σ)) (I : Inv X pins σ H s) (r : Vals vs us)
    (h : ∀ y dy, H y = none → H dy = none → dy ≠ y → sp (.ref y :: vs) (upd (upd H dy (.own y)) y (.ins C dy [])) (fun v H2 => v = .non ∧ Q (.ref y) H2) (E σ)) :
    wpAny (model X.prog X.w) X.A (call (.ref C) us) (EP X pins σ Q) X.xe s := by
  have q0 := h (s.heap.objs.size + 1) s.heap.objs.size (I.hok.fresh (Nat.le_succ _)) (I.hok.fresh (Nat.le_refl _)) (Nat.ne_of_lt (Nat.lt_succ_self _))
  have J := Inv.made (C := C) I
  have rr : Vals (V.ref (s.heap.objs.size + 1) :: vs) (Value.ref (s.heap.objs.size + 1) :: us) := .cons rfl r
  have hl : (Value.ref (s.heap.objs.size + 1) :: us).length = ps.length := by
    have z := rr.length
    rw [F.len _ _ _ _ q0] at z
    exact z.symm
  have bb := hb _ (Value.ref (s.heap.objs.size + 1) :: us) J.kIn (by rw [List.append_nil]; exact hl)
  rw [List.append_nil] at bb
  refine wpAny_call (make_map (f := f) I.kIn M.makes M.init (beq_iff_eq.mp M.fn) (codeAny_mono (F.run _ X.stack _ _ ⟨Value.ref (s.heap.objs.size + 1) :: us, []⟩ (Value.ref (s.heap.objs.size + 1) :: us) _ _ (E σ) (hr.make C us [])
    (J.env0.make C us []) bb rr q0) fun rs s' hq => ?_))
  cases rs with
  | error e => exact hx pins _ _ e s' J hq
  | ok fl =>
    cases fl with
    | ret u =>
      obtain ⟨v, H', I3, rv, ev, q3⟩ := J.after hq
      subst ev
      exact ⟨rv, ⟨V.ref (s.heap.objs.size + 1), H', I3, rfl, q3⟩⟩
    | next => exact False.elim hq
    | brk => exact False.elim hq
    | cont => exact False.elim hq
theorem pciS (c : Ci X.prog X.w X.K X.mg X.base (L2.CX X.prog X.w) k x C sp) (hr : Room j X.A) (hk : k + 1 ≤ j) (hg : Gl X x) (hx : ∀ σ, PassesAt (L2.CX X.prog X.w) X σ (E σ)) (ha : PA X (e :: es) t)
    (hdb : (x == ("__debug__" : Str)) = false := by decide) (he : starEach (e :: es) X.env = (false, eval e X.env) :: starEach es X.env := by rfl) (hpl : (backTo pos (starEach es X.env)).any (·.1) = false := by rfl) :
    PE X (.Call (.Name x p) (e :: es) [] pos) (tMakeS C sp E t) := by
  obtain ⟨f, fd, ps, M, F, hm, b⟩ := c.ex
  refine ⟨fun pins s σ H Q I h => ?_⟩
  refine wpAny_Call_Name_kw (ld_glob I hg hm ?_ hdb)
  refine PySem.W.callWith_K (h₀ := X.base) I.ok.mod.kin M.kp (thn (ha.run pos pins s σ H _ I h) fun us s1 ⟨vs, H1, I1, r, q⟩ => ⟨I1.kIn, ?_⟩) he hpl
  exact run_makeS M F (hr.mono hk) b (hx σ) I1 r q
end
section
variable {K : PySem.W.Frag} {E : XK} {W : WX} {Γ : Gam} {d : D} {ds : List D} {tas : TA} {te tx : TE} {S : List D → D → Prop} {T : List D → Addr → Prop} {C C' : Addr}
theorem ed_makeS {E' : L2.St → XK} (h : Ea K tas Γ ds) (hs : S ds d) : Ed K (tMakeS C (spI K C S T) E' tas) Γ d := fun F0 H0 F H σ ok Q q => h F0 H0 F H σ ok _ fun vs F1 H1 g1 r1 => fun x dx hx hdx ne =>
  ⟨F1, H1, x, dx, vs, ds, rfl, g1.s, hx, hdx, ne, rfl, r1, .inl ⟨d, hs, fun F2 H2 g2 r2 => ⟨rfl, q _ F2 H2 (g1.trans g2) r2⟩⟩⟩
theorem xw_makeS (h : Ea K tas Γ ds) (hs : T ds C') : XdW K W (tMakeS C (spI K C S T) (WE W) tas) Γ C' := fun F0 H0 F H σ ok fin Q => h F0 H0 F H σ ok _ fun vs F1 H1 g1 r1 => fun x dx hx hdx ne =>
  ⟨F1, H1, x, dx, vs, ds, rfl, g1.s, hx, hdx, ne, rfl, r1, .inr ⟨C', hs, fun F2 H2 g2 => fin F2 H2 ((ok.grow g1).grow g2)⟩⟩
/-! ### xs[i] = e -/
theorem RpA.setAt {F : Hp} {v : V} : ∀ {vs : List V} {ds : List D} (j : Nat), RpA K F vs ds → Rp K F v d → RpA K F (vs.set j v) (ds.set j d)
  | _, _, _, .nil, _ => .nil
  | _, _, 0, .cons _ r, h => .cons h r
  | _, _, j + 1, .cons a r, h => .cons a (RpA.setAt j r h)
theorem sd_put (i : Nat) {k : Int} {j : Nat} (hi : Γ[i]? = some (.ow ds)) (h : Ed K te Γ d) (hx : Ed K tx Γ (.int k)) (hk : ixN ds.length k = some j) : Sd K E (tAsg te (gSub (tVar i) tx rSetL)) Γ (.nx (Γ.set i (.ow (ds.set j d)))) := fun F0 H0 F H σ De ok fin => by
  refine h F0 H0 F H σ ok _ fun v F1 H1 g1 r1 => ?_
  have ok1 := ok.grow g1
  obtain ⟨p, ho, a, b, c, e, r, _⟩ := ok1.ow i (.lst ds) hi
  obtain ⟨vs, rfl, r'⟩ : ∃ vs, ho = .lst vs ∧ RpA K F1 vs ds := by
    cases r with
    | lst r => exact ⟨_, rfl, r⟩
  refine ⟨.ref p, a, ?_⟩
  refine hx F0 H0 F1 H1 σ ok1 _ fun w F2 H2 g2 r2 => ?_
  cases r2
  obtain ⟨c2, b2⟩ := g2.out c b
  refine ⟨p, vs, k, j, rfl, rfl, b2, by rw [r'.len]; exact hk, ?_⟩
  exact fin F2 _ σ (g1.trans g2).f ((ok1.grow g2).upOw hi a (.lst (RpA.setAt j (r'.mono g2.f) (r1.mono g2.f))) trivial)
end
end DL

namespace DL
open PySem PySem.Spec PyProof.Rows L2
/-! ### results that share no list with what was handed in -/
def EdN (K : PySem.W.Frag) (te : TE) (Γ : Gam) (d : D) : Prop := ∀ (F0 H0 F H : Hp) (σ : L2.St), Ok K F0 H0 F H σ Γ → ∀ Q : VK, (∀ v F1 H1, Gr F H F1 H1 → Rp K (fr H0 F1) v d → Q v H1) → te σ H Q
def Lf (K : PySem.W.Frag) (d : D) : Prop := ∀ (F Hs : Hp) (v : V), Rp K F v d → Rp K (fr Hs F) v d
section
variable {K : PySem.W.Frag} {E : XK} {Γ Γ' : Gam} {d : D} {ds : List D} {tas : TA} {te : TE} {C C' : Addr} {S SN : List D → D → Prop} {T : List D → Addr → Prop}
theorem EdN.ed (h : EdN K te Γ d) : Ed K te Γ d := fun F0 H0 F H σ ok Q q => h F0 H0 F H σ ok Q fun v F1 H1 g r => q v F1 H1 g (r.mono (fr_sub _ _))
theorem lf_str (x : Str) : Lf K (.str x) := fun F Hs v r => by cases r; exact .str x
theorem lf_pair (a b : Int) : Lf K (.tup [.int a, .int b]) := fun F Hs v r => by
  cases r with
  | @tup p xs _ h ra =>
    have e := RpA.ints (ns := [a, b]) ra
    subst e
    refine .tup ?_ (RpA.ofInts [a, b])
    rcases h with (h | ⟨o, h⟩) | h
    · exact .inl (.inl (fr_oth h fun ys e => nomatch e))
    · exact .inl (.inr ⟨o, fr_oth h fun ys e => nomatch e⟩)
    · exact .inr h
theorem rpa_lf {F Hs : Hp} : ∀ {vs : List V} {ds : List D}, (∀ d ∈ ds, Lf K d) → RpA K F vs ds → RpA K (fr Hs F) vs ds
  | _, _, _, .nil => .nil
  | _, _, h, .cons a r => .cons (h _ List.mem_cons_self F Hs _ a) (rpa_lf (fun d hd => h d (List.mem_cons_of_mem _ hd)) r)
theorem edN_lf (h : Ed K te Γ d) (l : Lf K d) : EdN K te Γ d := fun F0 H0 F H σ ok Q q => h F0 H0 F H σ ok Q fun v F1 H1 g r => q v F1 H1 g (l F1 H0 v r)
theorem edN_copy (h : Ed K te Γ (.lst ds)) (hl : ∀ d ∈ ds, Lf K d) : EdN K (tCB (rListA K) (tCons te tNil)) Γ (.lst ds) := fun F0 H0 F H σ ok Q q => (ea_cons h ea_nil) F0 H0 F H σ ok _ fun vs F1 H1 g1 r1 => by
  cases r1 with
  | cons r rr =>
    cases rr
    cases r with
    | @lst a xs _ ha ra =>
      refine ⟨a, xs, rfl, .inl (.inl (.inl (g1.s _ _ ha))), fun l hl' => ?_⟩
      have g := Gr.new (o := .lst xs) g1.s hl'
      have h0 : H0 l = none := (ok.g.h.trans g1.h).free hl'
      exact q _ _ _ (g1.trans g) (.lst (fr_new h0 upd_same) (rpa_lf hl (ra.mono g.f)))
theorem RpA.snoc {F : Hp} {vs : List V} {ds : List D} {v : V} (h : RpA K F vs ds) (r : Rp K F v d) : RpA K F (vs ++ [v]) (ds ++ [d]) := h.append (.one r)
theorem edN_map {α : Type} {wi : TI} {g : TG} {vs : List Nat} (xs : List α) (enc : α → D) (f : α → D) (hw : Ei K wi Γ (xs.map enc)) (hl : xs.length ≤ 100000)
    (h : ∀ x ∈ xs, ∃ js Γ1, Eg K g js (enc x) (wipeG Γ vs) Γ1 ∧ (∀ j ∈ js, j ∈ vs) ∧ EdN K te Γ1 (f x)) : EdN K (tLc wi g tYes te vs) Γ (.lst (xs.map f)) := fun F0 H0 F H σ ok Q q =>
  hw F0 H0 F H σ ok _ fun J F1 H1 g1 wk D hD => by
    have hDH : H D = none := g1.h.free hD
    have hDF : F1 D = none := g1.s.free hD
    have hD0 : H0 D = none := ok.g.h.free hDH
    have set : ∀ {F' H' : Hp} {ws : List V}, Gr F H F' H' → F' D = none → Gr F H F' (upd H' D (.lst ws)) := fun {F' H' ws} g hf =>
      ⟨g.f, fun x y e => by rw [upd_ne (ne_of_none e hf)]; exact g.s x y e, fun x y e => by rw [upd_ne (ne_of_none e hDH)]; exact g.h x y e, g.n⟩
    let St := fun (i : Nat) (H' : Hp) => ∃ F' acc, i ≤ xs.length ∧ Same F1 F' ∧ Gr F H F' H' ∧ F' D = none ∧ H' D = some (.lst acc) ∧ RpA K (fr H0 F') acc ((xs.take i).map f)
    refine ⟨fun i m H' => m = xs.length - i ∧ St i H', ⟨xs.length, rfl, F1, [], Nat.zero_le _, Same.refl _, set g1 hDF, hDF, upd_same, .nil⟩, ?_⟩
    rintro i m H2 ⟨rfl, F2, acc, hi, s2, g2, f2, e2, r2⟩
    have lenx : (xs.map enc).length = xs.length := List.length_map _
    by_cases hlt : i < xs.length
    · refine .inr ⟨wk.go i F2 H2 s2 g2.s (by rw [lenx]; exact hlt), St (i + 1), fun H' z => ⟨xs.length - (i + 1), by omega, rfl, z⟩, fun x H3 hy => ?_⟩
      obtain ⟨F3, d, g3, hd, rx⟩ := wk.yl i x F2 H2 H3 s2 g2.s (by rw [lenx]; exact hlt) hy
      have hx : xs[i]? = some xs[i] := List.getElem?_eq_getElem hlt
      rw [List.getElem?_map, hx] at hd
      cases hd
      obtain ⟨js, Γ1, hg, hj, he⟩ := h xs[i] (List.getElem_mem hlt)
      have g03 := g2.trans g3
      have f3 : F3 D = none ∧ H3 D = some (.lst acc) := g3.out f2 e2
      refine hg F0 H0 F3 H3 _ x ((ok.grow g03).wipe vs) rx _ fun σ4 ok4 wp => ⟨(wp vs hj).trans (wipe_wipe σ vs), ?_⟩
      refine et_yes F0 H0 F3 H3 σ4 ok4 _ fun F4 H4 g4 => ?_
      have f4 := g4.out f3.1 f3.2
      have tk : xs.take (i + 1) = xs.take i ++ [xs[i]] := by rw [List.take_add_one, hx]; rfl
      rw [if_pos rfl]
      refine he F0 H0 F4 H4 σ4 (ok4.grow g4) _ fun v F5 H5 g5 r5 => ?_
      have f5 := g5.out f4.1 f4.2
      have gg := (g03.trans g4).trans g5
      refine ⟨acc, f5.2, ?_, F5, acc ++ [v], by omega, ((s2.trans g3.f).trans g4.f).trans g5.f, set gg f5.1, f5.1, upd_same, ?_⟩
      · have z := r2.len
        rw [List.length_map, List.length_take] at z
        have z3 : acc.length < 100000 := by omega
        exact Nat.lt_of_lt_of_le z3 (by decide)
      · rw [tk, List.map_append]
        exact RpA.snoc (r2.mono (fr_mono ((g3.f.trans g4.f).trans g5.f))) r5
    · have e : i = xs.length := by omega
      subst e
      refine .inl ⟨by have z := wk.st F2 H2 s2 g2.s; rw [lenx] at z; exact z, ?_⟩
      rw [List.take_length] at r2
      have sf : Same F2 (upd F2 D (.lst acc)) := same_upd f2
      refine q _ (upd F2 D (.lst acc)) H2 ⟨g2.f.trans sf, fun a u e => ?_, g2.h, fun a a1 a2 => ?_⟩ (.lst (fr_new hD0 upd_same) (r2.mono (fr_mono sf)))
      · by_cases ha : a = D
        · subst ha; rw [upd_same] at e; rw [e2]; exact e
        · rw [upd_ne ha] at e; exact g2.s a u e
      · have ha : a ≠ D := fun z => by subst z; exact a2 hDH
        rw [upd_ne ha]
        exact g2.n a a1 a2
theorem sd_retF (h : EdN K te Γ d) : Sd K E (tRet te) Γ (.rn d) := fun F0 H0 F H σ De ok fin => h F0 H0 F H σ ok _ fun v F1 H1 g r => fin v F1 H1 (ok.g.trans g) r
end
/-! ### promises -/
def spOr (a b : Sp) : Sp := fun vs H Q E => a vs H Q E ∨ b vs H Q E
def spN (K : PySem.W.Frag) (S : List D → D → Prop) : Sp := fun vs H Q _ => ∃ F ds d, Same F H ∧ RpA K F vs ds ∧ S ds d ∧ ∀ v F' H', Gr F H F' H' → Rp K (fr H F') v d → Q v H'
def spIN (K : PySem.W.Frag) (C : Addr) (S : List D → D → Prop) : Sp := fun vs H Q E => ∃ F Hc x dx vs' ds, vs = .ref x :: vs' ∧ Same F Hc ∧ Hc x = none ∧ Hc dx = none ∧ dx ≠ x ∧ H = upd (upd Hc dx (.own x)) x (.ins C dx []) ∧ RpA K F vs' ds ∧
  ∃ d, S ds d ∧ ∀ F' H', Gr F Hc F' H' → Rp K (fr Hc F') (.ref x) d → Q .non H'
section
variable {K : PySem.W.Frag} {E : XK} {W : WX} {Γ : Gam} {d : D} {ds : List D} {tas : TA} {te : TE} {C C' : Addr} {S SN : List D → D → Prop} {T : List D → Addr → Prop} {sp : Sp}
theorem ed_callL {E' : XK} (h : Ea K tas Γ ds) (hs : S ds d) : Ed K (tCall (spOr (spR K S) sp) [] E' tas) Γ d := fun F0 H0 F H σ ok Q q => h F0 H0 F H σ ok _ fun vs F1 H1 g1 r1 =>
  .inl ⟨F1, ds, d, g1.s, by rw [List.append_nil]; exact r1, hs, fun v F2 H2 g2 r2 => q v F2 H2 (g1.trans g2) r2⟩
theorem ed_makeSL {E' : L2.St → XK} (h : Ea K tas Γ ds) (hs : S ds d) : Ed K (tMakeS C (spOr (spI K C S T) sp) E' tas) Γ d := fun F0 H0 F H σ ok Q q => h F0 H0 F H σ ok _ fun vs F1 H1 g1 r1 => fun x dx hx hdx ne =>
  .inl ⟨F1, H1, x, dx, vs, ds, rfl, g1.s, hx, hdx, ne, rfl, r1, .inl ⟨d, hs, fun F2 H2 g2 r2 => ⟨rfl, q _ F2 H2 (g1.trans g2) r2⟩⟩⟩
theorem xw_makeSL (h : Ea K tas Γ ds) (hs : T ds C') : XdW K W (tMakeS C (spOr (spI K C S T) sp) (WE W) tas) Γ C' := fun F0 H0 F H σ ok fin Q => h F0 H0 F H σ ok _ fun vs F1 H1 g1 r1 => fun x dx hx hdx ne =>
  .inl ⟨F1, H1, x, dx, vs, ds, rfl, g1.s, hx, hdx, ne, rfl, r1, .inr ⟨C', hs, fun F2 H2 g2 => fin F2 H2 ((ok.grow g1).grow g2)⟩⟩
theorem edN_makeS {E' : L2.St → XK} (h : Ea K tas Γ ds) (hs : SN ds d) : EdN K (tMakeS C (spOr sp (spIN K C SN)) E' tas) Γ d := fun F0 H0 F H σ ok Q q => h F0 H0 F H σ ok _ fun vs F1 H1 g1 r1 => fun x dx hx hdx ne =>
  .inr ⟨F1, H1, x, dx, vs, ds, rfl, g1.s, hx, hdx, ne, rfl, r1, d, hs, fun F2 H2 g2 r2 => ⟨rfl, q _ F2 H2 (g1.trans g2) (r2.mono (fr_weak (ok.g.h.trans g1.h)))⟩⟩
end
/-! ### an __init__ whose fields are new -/
def Rx (K : PySem.W.Frag) (x C : Addr) (gs : List (Str × D)) : Hp → Hp → Hp → Prop := fun H0 F H => ∃ dx fs, H x = some (.ins C dx fs) ∧ RpF K (fr H0 F) fs gs
def SdI (K : PySem.W.Frag) (ts : TS) (x C : Addr) (Γ : Gam) (gs : List (Str × D)) (Γ' : Gam) (gs' : List (Str × D)) : Prop := ∀ (F0 H0 F H : Hp) (σ : L2.St) (De : Ends), Ok K F0 H0 F H σ Γ → Rx K x C gs H0 F H →
  (∀ F1 H1 σ1, Same F F1 → Ok K F0 H0 F1 H1 σ1 Γ' → Rx K x C gs' H0 F1 H1 → De.nx σ1 H1) → ts De σ H
theorem RpF.len' {K : PySem.W.Frag} {H : Hp} : ∀ {vs : List (Str × V)} {ds : List (Str × D)}, RpF K H vs ds → vs.length = ds.length
  | _, _, .nil => rfl
  | _, _, .cons _ t => congrArg Nat.succ (RpF.len' t)
section
variable {K : PySem.W.Frag} {E : XK} {Γ Γ1 Γ' : Gam} {gs gs1 gs' : List (Str × D)} {d : D} {te : TE} {ts tu : TS} {x C : Addr} {f : Str}
theorem sdI_seq (h1 : SdI K ts x C Γ gs Γ1 gs1) (h2 : SdI K tu x C Γ1 gs1 Γ' gs') : SdI K (tSeq ts tu) x C Γ gs Γ' gs' := fun F0 H0 F H σ De ok r fin => h1 F0 H0 F H σ _ ok r fun F1 H1 σ1 e1 ok1 r1 =>
  h2 F0 H0 F1 H1 σ1 De ok1 r1 fun F2 H2 σ2 e2 ok2 r2 => fin F2 H2 σ2 (e1.trans e2) ok2 r2
theorem sdI_fld (i : Nat) (hi : Γ[i]? = some (.ob (some x) C gs)) (h : EdN K te Γ d) (c : Cls K C) (n : NoAttr K C f) (hl : gs.length < 1000) : SdI K (sFld K (tVar i) te f) x C Γ gs (Γ.set i (.ob (some x) C (putD f d gs))) (putD f d gs) := fun F0 H0 F H σ De ok r fin =>
  h F0 H0 F H σ ok _ fun v F1 H1 g1 r1 => by
    obtain ⟨p, ho, a, b, c', e', rr, at_⟩ := ok.ow i _ hi
    have hp : x = p := at_
    subst hp
    obtain ⟨dx, fs, hx, rf⟩ := r
    obtain ⟨c1, b1⟩ := g1.out c' hx
    have ok1 := ok.grow g1
    have rF := rf.mono (fr_mono (Hs := H0) g1.f)
    exact ⟨_, a, x, C, dx, fs, rfl, b1, c, n, by rw [RpF.len' rf]; exact hl, fin F1 _ σ g1.f (ok1.upOw hi a (.ins ((rF.mono (fr_sub _ _)).put (r1.mono (fr_sub _ _)))) rfl) ⟨dx, _, upd_same, rF.put r1⟩⟩
theorem rx_nil {F0 H0 F H : Hp} {σ : L2.St} {i : Nat} (ok : Ok K F0 H0 F H σ Γ) (hi : Γ[i]? = some (.ob (some x) C [])) : Rx K x C [] H0 F H := by
  obtain ⟨p, ho, a, b, c', e', rr, at_⟩ := ok.ow i _ hi
  have hp : x = p := at_
  subst hp
  cases rr with
  | @ins _ _ dx fs _ hf =>
    cases hf
    exact ⟨dx, [], b, .nil⟩
theorem sdI_start (h : Sd K E ts Γ (.nx Γ1)) {i : Nat} (h1 : Γ1[i]? = some (.ob (some x) C [])) : SdI K ts x C Γ [] Γ1 [] := fun F0 H0 F H σ De ok r fin => h F0 H0 F H σ De ok fun F1 H1 σ1 e ok1 => fin F1 H1 σ1 e ok1 (rx_nil ok1 h1)
end
section
variable {P : Program} {w : World} {K : PySem.W.Frag} {mg : Str → Option Value} {base : Heap} {x m qual : Str} {st : Stmt} {C : Addr} {N ps : List Str} {k : Nat} {S SN : List D → D → Prop} {T : List D → Addr → Prop}
theorem ciXN (D : Di K C m qual ps st) (hm : mg x = some (.ref C)) (sc : FnScope N ps (defScope st)) (len : ∀ ds d, S ds d → ds.length + 1 = ps.length) (len2 : ∀ ds C, T ds C → ds.length + 1 = ps.length) (len3 : ∀ ds d, SN ds d → ds.length + 1 = ps.length)
    (body : ∀ (f : Addr) (cdv : Value) (A : Around) (outer : List Env) (s : Shared) (H : Hp) (E : XK), Room k (A.deeper (envOfC qual (defScope st) s.heap.objs.size f cdv)) →
      ∃ t, PSs (cxOf (L2.CX P w) P w K mg base N qual (defScope st) f cdv A outer s H E) (defBody st) t ∧ (∀ ds d, S ds d → ∀ x, ∃ Γ gs, Γ[0]? = some (.ob (some x) C gs) ∧ d = .ins C gs ∧ Sd K E t (startI N x C ds) (.nx Γ)) ∧ (∀ ds C', T ds C' → ∀ x, Sd K E t (startI N x C ds) (.ex C')) ∧
        (∀ ds d, SN ds d → ∀ x, ∃ Γ gs, Γ[0]? = some (.ob (some x) C gs) ∧ d = .ins C gs ∧ SdI K t x C (startI N x C ds) [] Γ gs)) : Ci P w K mg base (L2.CX P w) (k + 1) x C (spOr (spI K C S T) (spIN K C SN)) := by
  obtain ⟨f, fd, M, F, b⟩ := D.ex
  refine ⟨f, fd, ps, M, F.okX sc (fun vs H Q E h => ?_) (fun cdv A outer s H vs Q E hr h => ?_), hm, b⟩
  · rcases h with ⟨F', Hc, x, dx, vs', ds, rfl, e, hx, hdx, ne, rfl, r, h⟩ | ⟨F', Hc, x, dx, vs', ds, rfl, e, hx, hdx, ne, rfl, r, d, hs, q⟩
    · rw [List.length_cons, r.len]
      rcases h with ⟨d, hs, q⟩ | ⟨C', hs, q⟩
      · exact len ds d hs
      · exact len2 ds C' hs
    · rw [List.length_cons, r.len]
      exact len3 ds d hs
  · obtain ⟨t, ht, hd, hx2, hn⟩ := body f cdv A outer s H E hr
    refine ⟨t, ht, ?_⟩
    rcases h with ⟨F', Hc, x, dx, vs', ds, rfl, e, hx, hdx, ne, rfl, r, h⟩ | ⟨F', Hc, x, dx, vs', ds, rfl, e, hx, hdx, ne, rfl, r, d, hs, q⟩
    · rcases h with ⟨d, hs, q⟩ | ⟨C', hs, q⟩
      · obtain ⟨Γ, gs, h0, rfl, hsd⟩ := hd ds d hs x
        refine hsd F' Hc F' _ _ _ (ok_startI e hx hdx ne r) fun F1 H1 σ1 e1 ok1 => ?_
        obtain ⟨F2, g2, _, _, p, hp, rp⟩ := ok1.freeze h0
        cases (show x = p from hp)
        exact q F2 H1 g2 rp
      · exact hx2 ds C' hs x F' Hc F' _ _ _ (ok_startI e hx hdx ne r) q
    · obtain ⟨Γ, gs, h0, rfl, hsd⟩ := hn ds d hs x
      have ok0 := ok_startI (N := N) (C := C) e hx hdx ne r
      refine hsd F' Hc F' _ _ _ ok0 (rx_nil (i := 0) ok0 rfl) fun F1 H1 σ1 e1 ok1 hr1 => ?_
      obtain ⟨p, ho, a, b1, c1, e', rr, at_⟩ := ok1.ow 0 _ h0
      have hp : x = p := at_
      subst hp
      obtain ⟨dx1, fs, hx1, rf⟩ := hr1
      have sF : Same F1 (upd F1 x (.ins C dx1 fs)) := same_upd c1
      refine q (upd F1 x (.ins C dx1 fs)) H1 ⟨ok1.g.f.trans sF, fun y u ey => ?_, ok1.g.h, fun y a1 a2 => ?_⟩ (.ins (fr_new hx upd_same) (rf.mono (fr_mono sF)))
      · by_cases hy : y = x
        · subst hy; rw [upd_same] at ey; rw [hx1]; exact ey
        · rw [upd_ne hy] at ey; exact ok1.g.s y u ey
      · have hy : y ≠ x := fun z => by subst z; exact a2 hx
        rw [upd_ne hy]
        exact ok1.g.n y a1 a2
theorem clRN (D : Df K mg x ps st) (sc : FnScope N ps (defScope st)) (len : ∀ ds d, S ds d → ds.length = ps.length) (len3 : ∀ ds d, SN ds d → ds.length = ps.length)
    (body : ∀ (f : Addr) (cdv : Value) (A : Around) (outer : List Env) (s : Shared) (H : Hp) (E : XK), Room k (A.deeper (envOfC x (defScope st) s.heap.objs.size f cdv)) →
      ∃ t, PSs (cxOf CX0 P w K mg base N x (defScope st) f cdv A outer s H E).nox (defBody st) t ∧ (∀ ds d, S ds d → Sd K E0 t (startG N ds) (.rt d)) ∧ (∀ ds d, SN ds d → Sd K E0 t (startG N ds) (.rn d))) : Cl P w K mg base CX0 (k + 1) x (spOr (spR K S) (spN K SN)) := by
  obtain ⟨f, fd, F, hm, b⟩ := D.ex
  refine ⟨f, fd, ps, F.ok sc (fun vs H Q E h => ?_) (fun cdv A outer s H vs Q E hr h => ?_), hm, F.kp, b⟩
  · rcases h with ⟨F', ds, d, e, r, hs, q⟩ | ⟨F', ds, d, e, r, hs, q⟩
    · rw [r.len]; exact len ds d hs
    · rw [r.len]; exact len3 ds d hs
  · obtain ⟨t, ht, hd, hn⟩ := body f cdv A outer s H E hr
    refine ⟨t, ht, ?_⟩
    rcases h with ⟨F', ds, d, e, r, hs, q⟩ | ⟨F', ds, d, e, r, hs, q⟩
    · exact run_rt (hd ds d hs) e r q
    · exact hn ds d hs F' H F' H _ _ (ok_start e r) fun v F2 H2 g1 r1 => q v F2 H2 g1 r1
end
end DL

namespace DL
open PySem PySem.Spec PyProof.Rows L2
/-! ### new lists within new lists, nobody else's -/
inductive Tr where
  | lf (d : D) | nd (ts : List Tr)
mutual
def Tr.toD : Tr → D
  | .lf d => d
  | .nd ts => .lst (Tr.toDs ts)
def Tr.toDs : List Tr → List D
  | [] => []
  | t :: ts => Tr.toD t :: Tr.toDs ts
end
mutual
inductive TrR (K : PySem.W.Frag) (F H : Hp) : V → Tr → List Addr → Prop
  | lf {v : V} {d : D} : Rp K F v d → TrR K F H v (.lf d) []
  | nd {p : Addr} {vs : List V} {ts : List Tr} {as : List Addr} : H p = some (.lst vs) → F p = none → TrA K F H vs ts as → p ∉ as → TrR K F H (.ref p) (.nd ts) (p :: as)
inductive TrA (K : PySem.W.Frag) (F H : Hp) : List V → List Tr → List Addr → Prop
  | nil : TrA K F H [] [] []
  | cons {v : V} {vs : List V} {t : Tr} {ts : List Tr} {as bs : List Addr} : TrR K F H v t as → TrA K F H vs ts bs → (∀ a ∈ as, a ∉ bs) → TrA K F H (v :: vs) (t :: ts) (as ++ bs)
end
section
variable {K : PySem.W.Frag} {F H F1 H1 : Hp}
mutual
theorem TrR.free : ∀ {v : V} {t : Tr} {as : List Addr}, TrR K F H v t as → ∀ a ∈ as, F a = none ∧ ∃ vs, H a = some (.lst vs)
  | _, _, _, .lf _, a, ha => nomatch ha
  | _, _, _, .nd h f r _, a, ha => by
    rcases List.mem_cons.mp ha with e | e
    · rw [e]; exact ⟨f, _, h⟩
    · exact TrA.free r a e
theorem TrA.free : ∀ {vs : List V} {ts : List Tr} {as : List Addr}, TrA K F H vs ts as → ∀ a ∈ as, F a = none ∧ ∃ vs, H a = some (.lst vs)
  | _, _, _, .nil, a, ha => nomatch ha
  | _, _, _, .cons h r _, a, ha => by
    rcases List.mem_append.mp ha with e | e
    · exact TrR.free h a e
    · exact TrA.free r a e
end
mutual
theorem TrR.nodup : ∀ {v : V} {t : Tr} {as : List Addr}, TrR K F H v t as → as.Nodup
  | _, _, _, .lf _ => List.nodup_nil
  | _, _, _, .nd _ _ r n => List.nodup_cons.mpr ⟨n, TrA.nodup r⟩
theorem TrA.nodup : ∀ {vs : List V} {ts : List Tr} {as : List Addr}, TrA K F H vs ts as → as.Nodup
  | _, _, _, .nil => List.nodup_nil
  | _, _, _, .cons h r n => List.nodup_append.mpr ⟨TrR.nodup h, TrA.nodup r, fun a ha b hb e => n a ha (e ▸ hb)⟩
end
mutual
theorem TrR.move : ∀ {v : V} {t : Tr} {as : List Addr}, TrR K F H v t as → Same F F1 → (∀ a ∈ as, F1 a = none) → (∀ a ∈ as, ∀ o, H a = some o → H1 a = some o) → TrR K F1 H1 v t as
  | _, _, _, .lf r, s, _, _ => .lf (r.mono s)
  | _, _, _, .nd h f r n, s, a, b => .nd (b _ List.mem_cons_self _ h) (a _ List.mem_cons_self) (TrA.move r s (fun x hx => a x (List.mem_cons_of_mem _ hx)) fun x hx => b x (List.mem_cons_of_mem _ hx)) n
theorem TrA.move : ∀ {vs : List V} {ts : List Tr} {as : List Addr}, TrA K F H vs ts as → Same F F1 → (∀ a ∈ as, F1 a = none) → (∀ a ∈ as, ∀ o, H a = some o → H1 a = some o) → TrA K F1 H1 vs ts as
  | _, _, _, .nil, _, _, _ => .nil
  | _, _, _, .cons h r n, s, a, b => .cons (TrR.move h s (fun x hx => a x (List.mem_append_left _ hx)) fun x hx => b x (List.mem_append_left _ hx)) (TrA.move r s (fun x hx => a x (List.mem_append_right _ hx)) fun x hx => b x (List.mem_append_right _ hx)) n
end
theorem TrR.grow {v : V} {t : Tr} {as : List Addr} (r : TrR K F H v t as) (g : Gr F H F1 H1) : TrR K F1 H1 v t as := r.move g.f (fun a ha => by
    obtain ⟨f, vs, h⟩ := r.free a ha
    exact (g.out f h).1) fun a _ o h => g.h a o h
theorem TrA.grow {vs : List V} {ts : List Tr} {as : List Addr} (r : TrA K F H vs ts as) (g : Gr F H F1 H1) : TrA K F1 H1 vs ts as := r.move g.f (fun a ha => by
    obtain ⟨f, vs, h⟩ := r.free a ha
    exact (g.out f h).1) fun a _ o h => g.h a o h
theorem TrA.snoc {v : V} {t : Tr} {bs : List Addr} (h : TrR K F H v t bs) : ∀ {vs : List V} {ts : List Tr} {as : List Addr}, TrA K F H vs ts as → (∀ a ∈ as, a ∉ bs) → TrA K F H (vs ++ [v]) (ts ++ [t]) (as ++ bs)
  | _, _, _, .nil, _ => by
    have z := TrA.cons h .nil fun a _ hb => nomatch hb
    rw [List.append_nil] at z
    exact z
  | _, _, _, .cons (as := as) (bs := cs) h1 r n, d => by
    have z := TrA.snoc h r fun a ha => d a (List.mem_append_right _ ha)
    rw [List.append_assoc]
    refine .cons h1 z fun a ha hb => ?_
    rcases List.mem_append.mp hb with e | e
    · exact n a ha e
    · exact d a (List.mem_append_left _ ha) e
theorem TrA.len : ∀ {vs : List V} {ts : List Tr} {as : List Addr}, TrA K F H vs ts as → vs.length = ts.length
  | _, _, _, .nil => rfl
  | _, _, _, .cons _ r _ => congrArg Nat.succ (TrA.len r)
theorem tra_lf : ∀ {vs : List V} {ds : List D}, RpA K F vs ds → TrA K F H vs (ds.map .lf) []
  | _, _, .nil => .nil
  | _, _, .cons h r => TrA.cons (as := []) (.lf h) (tra_lf r) fun a ha => nomatch ha
/-- for a while frozen -/
def fzT (as : List Addr) (F H : Hp) : Hp := fun a => if a ∈ as then H a else F a
theorem fzT_in {as : List Addr} {a : Addr} (h : a ∈ as) : fzT as F H a = H a := if_pos h
theorem fzT_out {as : List Addr} {a : Addr} (h : a ∉ as) : fzT as F H a = F a := if_neg h
theorem fzT_sub {as : List Addr} (h : ∀ a ∈ as, F a = none) : Same F (fzT as F H) := fun a o e => by
  rw [fzT_out fun z => by rw [h a z] at e; cases e]
  exact e
theorem fzT_sup {as : List Addr} (s : Same F H) : Same (fzT as F H) H := fun a o e => by
  by_cases z : a ∈ as
  · rw [fzT_in z] at e; exact e
  · rw [fzT_out z] at e; exact s a o e
mutual
theorem TrR.rp : ∀ {v : V} {t : Tr} {as : List Addr}, TrR K F H v t as → ∀ {G : Hp}, Same F G → (∀ a ∈ as, ∀ o, H a = some o → G a = some o) → Rp K G v t.toD
  | _, _, _, .lf r, _, s, _ => r.mono s
  | _, _, _, .nd h f r n, _, s, b => .lst (b _ List.mem_cons_self _ h) (TrA.rp r s fun x hx => b x (List.mem_cons_of_mem _ hx))
theorem TrA.rp : ∀ {vs : List V} {ts : List Tr} {as : List Addr}, TrA K F H vs ts as → ∀ {G : Hp}, Same F G → (∀ a ∈ as, ∀ o, H a = some o → G a = some o) → RpA K G vs (Tr.toDs ts)
  | _, _, _, .nil, _, _, _ => .nil
  | _, _, _, .cons h r n, _, s, b => .cons (TrR.rp h s fun x hx => b x (List.mem_append_left _ hx)) (TrA.rp r s fun x hx => b x (List.mem_append_right _ hx))
end
end
/-! ### expressions that make them -/
def Wt (K : PySem.W.Frag) (te : TE) (Γ : Gam) (t : Tr) : Prop := ∀ (F0 H0 F H : Hp) (σ : L2.St), Ok K F0 H0 F H σ Γ → ∀ Q : VK, (∀ v as F1 H1, Gr F H F1 H1 → TrR K F1 H1 v t as → (∀ a ∈ as, H a = none) → Q v H1) → te σ H Q
def Wa (K : PySem.W.Frag) (ta : TA) (Γ : Gam) (ts : List Tr) : Prop := ∀ (F0 H0 F H : Hp) (σ : L2.St), Ok K F0 H0 F H σ Γ → ∀ Q : List V → Hp → Prop, (∀ vs as F1 H1, Gr F H F1 H1 → TrA K F1 H1 vs ts as → (∀ a ∈ as, H a = none) → Q vs H1) → ta σ H Q
section
variable {K : PySem.W.Frag} {Γ : Gam} {d : D} {ds : List D} {tas ta : TA} {te : TE} {t : Tr} {ts : List Tr}
theorem wt_lf (h : Ed K te Γ d) : Wt K te Γ (.lf d) := fun F0 H0 F H σ ok Q q => h F0 H0 F H σ ok Q fun v F1 H1 g r => q v [] F1 H1 g (.lf r) fun a ha => nomatch ha
theorem wt_ow (h : Ew K te Γ ds) : Wt K te Γ (.nd (ds.map .lf)) := fun F0 H0 F H σ ok Q q => h F0 H0 F H σ ok Q fun p vs F1 H1 g hp hf h1 r => q (.ref p) [p] F1 H1 g (.nd h1 hf (tra_lf r) fun z => nomatch z) fun a ha => by
  rw [List.mem_singleton.mp ha]; exact hp
theorem wa_nil : Wa K tNil Γ [] := fun F0 H0 F H σ ok Q q => q [] [] F H (Gr.refl ok.g.s) .nil fun a ha => nomatch ha
theorem wa_cons (h : Wt K te Γ t) (hr : Wa K ta Γ ts) : Wa K (tCons te ta) Γ (t :: ts) := fun F0 H0 F H σ ok Q q => h F0 H0 F H σ ok _ fun v as F1 H1 g1 r1 n1 =>
  hr F0 H0 F1 H1 σ (ok.grow g1) _ fun vs bs F2 H2 g2 r2 n2 => q (v :: vs) (as ++ bs) F2 H2 (g1.trans g2) (.cons (r1.grow g2) r2 fun a ha hb => by
    obtain ⟨_, ws, e⟩ := r1.free a ha
    rw [n2 a hb] at e; cases e) fun a ha => by
    rcases List.mem_append.mp ha with e | e
    · exact n1 a e
    · exact g1.h.free (n2 a e)
theorem wt_lst (h : Wa K tas Γ ts) (hl : ts.length ≤ 100000 := by exact Nat.le_of_ble_eq_true rfl) : Wt K (tLst tas) Γ (.nd ts) := fun F0 H0 F H σ ok Q q => h F0 H0 F H σ ok _ fun vs as F1 H1 g1 r1 n1 =>
  ⟨by rw [r1.len]; exact Nat.le_trans hl (by decide), fun p hp => by
    have g2 := Gr.newO (o := .lst vs) g1.s hp
    have np : p ∉ as := fun z => by
      obtain ⟨_, ws, e⟩ := r1.free p z
      rw [hp] at e; cases e
    exact q (.ref p) (p :: as) F1 _ (g1.trans g2) (.nd upd_same (g1.s.free hp) (r1.grow g2) np) fun a ha => by
      rcases List.mem_cons.mp ha with e | e
      · rw [e]; exact g1.h.free hp
      · exact n1 a e⟩
theorem wt_map {α : Type} {wi : TI} {g : TG} {vs : List Nat} (xs : List α) (enc : α → D) (f : α → Tr) (hw : Ei K wi Γ (xs.map enc)) (hl : xs.length ≤ 100000)
    (h : ∀ x ∈ xs, ∃ js Γ1, Eg K g js (enc x) (wipeG Γ vs) Γ1 ∧ (∀ j ∈ js, j ∈ vs) ∧ Wt K te Γ1 (f x)) : Wt K (tLc wi g tYes te vs) Γ (.nd (xs.map f)) := fun F0 H0 F H σ ok Q q =>
  hw F0 H0 F H σ ok _ fun J F1 H1 g1 wk D hD => by
    have hDH : H D = none := g1.h.free hD
    have hDF : F1 D = none := g1.s.free hD
    have set : ∀ {F' H' : Hp} {ws : List V}, Gr F H F' H' → F' D = none → Gr F H F' (upd H' D (.lst ws)) := fun {F' H' ws} g hf =>
      ⟨g.f, fun x y e => by rw [upd_ne (ne_of_none e hf)]; exact g.s x y e, fun x y e => by rw [upd_ne (ne_of_none e hDH)]; exact g.h x y e, g.n⟩
    let St := fun (i : Nat) (H' : Hp) => ∃ F' acc as, i ≤ xs.length ∧ Same F1 F' ∧ Gr F H F' H' ∧ F' D = none ∧ H' D = some (.lst acc) ∧ D ∉ as ∧ (∀ a ∈ as, H a = none) ∧ TrA K F' H' acc ((xs.take i).map f) as
    refine ⟨fun i m H' => m = xs.length - i ∧ St i H', ⟨xs.length, rfl, F1, [], [], Nat.zero_le _, Same.refl _, set g1 hDF, hDF, upd_same, (fun z => nomatch z), (fun a ha => nomatch ha), .nil⟩, ?_⟩
    rintro i m H2 ⟨rfl, F2, acc, as, hi, s2, g2, f2, e2, nD, nn, r2⟩
    have lenx : (xs.map enc).length = xs.length := List.length_map _
    by_cases hlt : i < xs.length
    · refine .inr ⟨wk.go i F2 H2 s2 g2.s (by rw [lenx]; exact hlt), St (i + 1), fun H' z => ⟨xs.length - (i + 1), by omega, rfl, z⟩, fun x H3 hy => ?_⟩
      obtain ⟨F3, d, g3, hd, rx⟩ := wk.yl i x F2 H2 H3 s2 g2.s (by rw [lenx]; exact hlt) hy
      have hx : xs[i]? = some xs[i] := List.getElem?_eq_getElem hlt
      rw [List.getElem?_map, hx] at hd
      cases hd
      obtain ⟨js, Γ1, hg, hj, he⟩ := h xs[i] (List.getElem_mem hlt)
      have g03 := g2.trans g3
      have f3 : F3 D = none ∧ H3 D = some (.lst acc) := g3.out f2 e2
      refine hg F0 H0 F3 H3 _ x ((ok.grow g03).wipe vs) rx _ fun σ4 ok4 wp => ⟨(wp vs hj).trans (wipe_wipe σ vs), ?_⟩
      refine et_yes F0 H0 F3 H3 σ4 ok4 _ fun F4 H4 g4 => ?_
      have f4 := g4.out f3.1 f3.2
      have tk : xs.take (i + 1) = xs.take i ++ [xs[i]] := by rw [List.take_add_one, hx]; rfl
      rw [if_pos rfl]
      refine he F0 H0 F4 H4 σ4 (ok4.grow g4) _ fun v bs F5 H5 g5 r5 n5 => ?_
      have f5 := g5.out f4.1 f4.2
      have gg := (g03.trans g4).trans g5
      have r2' := ((r2.grow g3).grow g4)
      have Db : D ∉ bs := fun z => by rw [n5 D z] at f4; cases f4.2
      have dis : ∀ a ∈ as, a ∉ bs := fun a ha hb => by
        obtain ⟨_, ws, e⟩ := r2'.free a ha
        rw [n5 a hb] at e; cases e
      have stay : ∀ a, a ≠ D → ∀ o, H5 a = some o → (upd H5 D (.lst (acc ++ [v]))) a = some o := fun a ha o e => by rw [upd_ne ha]; exact e
      refine ⟨acc, f5.2, ?_, F5, acc ++ [v], as ++ bs, by omega, ((s2.trans g3.f).trans g4.f).trans g5.f, set gg f5.1, f5.1, upd_same, (fun z => (List.mem_append.mp z).elim nD Db), (fun a ha => ?_), ?_⟩
      · have z := r2.len
        rw [List.length_map, List.length_take] at z
        have z3 : acc.length < 100000 := by omega
        exact Nat.lt_of_lt_of_le z3 (by decide)
      · rcases List.mem_append.mp ha with e | e
        · exact nn a e
        · exact (g03.trans g4).h.free (n5 a e)
      · rw [tk, List.map_append]
        have z := TrA.snoc r5 (r2'.grow g5) dis
        exact z.move (Same.refl _) (fun a ha => (z.free a ha).1) fun a ha o e => stay a (fun y => by subst y; exact (List.mem_append.mp ha).elim nD Db) o e
    · have e : i = xs.length := by omega
      subst e
      refine .inl ⟨by have z := wk.st F2 H2 s2 g2.s; rw [lenx] at z; exact z, ?_⟩
      rw [List.take_length] at r2
      exact q (.ref D) (D :: as) F2 H2 g2 (.nd e2 f2 r2 nD) fun a ha => by
        rcases List.mem_cons.mp ha with e | e
        · rw [e]; exact hDH
        · exact nn a e
end
end DL

namespace DL
open PySem PySem.Spec PyProof.Rows L2
/-! ### a tree in a slot: looked at, handed in, changed -/
structure Sk (K : PySem.W.Frag) (hi : Nat) (t : Tr) (Γ : Gam) (F0 H0 F H : Hp) (σ : L2.St) (v : V) (as : List Addr) : Prop where
  ok : Ok K F0 H0 F H σ Γ
  at_ : σ[hi]? = some (some v)
  tr : TrR K F H v t as
  nw : ∀ a ∈ as, H0 a = none
def NoOw (Γ : Gam) : Prop := ∀ (i : Nat) (o : Ow), Γ[i]? ≠ some (.own o)
section
variable {K : PySem.W.Frag} {E : XK} {hi mi : Nat} {t : Tr} {Γ : Gam} {F0 H0 F H F1 H1 : Hp} {σ : L2.St} {v : V} {as : List Addr} {te : TE} {De : Ends} {d dm : D}
theorem Sk.grow (s : Sk K hi t Γ F0 H0 F H σ v as) (g : Gr F H F1 H1) : Sk K hi t Γ F0 H0 F1 H1 σ v as := ⟨s.ok.grow g, s.at_, s.tr.grow g, s.nw⟩
theorem sk_new (ok : Ok K F0 H0 F H σ Γ) (h : Wt K te Γ t) (hl : hi < Γ.length) (fin : ∀ F1 H1 σ1 v as, Same F F1 → Sk K hi t (Γ.set hi .no) F0 H0 F1 H1 σ1 v as → De.nx σ1 H1) : tAsg te (gName hi) De σ H :=
  h F0 H0 F H σ ok _ fun v as F1 H1 g1 r n => fin F1 H1 _ v as g1.f ⟨(ok.grow g1).no hi _, List.getElem?_set_self (by rw [ok.len]; exact hl), r, fun a ha => ok.g.h.free (n a ha)⟩
/-- frozen for a while -/
theorem Sk.fz (s : Sk K hi t Γ F0 H0 F H σ v as) (no : NoOw Γ) : Ok K F0 H0 (fzT as F H) H σ (Γ.set hi (.fz t.toD)) := by
  have fn : ∀ a ∈ as, F a = none := fun a ha => (s.tr.free a ha).1
  have sub := fzT_sub (H := H) fn
  have ok := s.ok
  refine ⟨⟨ok.g.f.trans sub, fzT_sup ok.g.s, ok.g.h, fun a h1 h2 => ?_⟩, by simpa using ok.len, fun j e h => ?_, fun j o h => ?_, fun j k o1 o2 p hjk h1 h2 h3 h4 => ?_⟩
  · have na : a ∉ as := fun z => h2 (s.nw a z)
    rw [fzT_out na]
    exact ok.g.n a h1 h2
  · rcases set_get h with ⟨rfl, q⟩ | ⟨n, q⟩
    · cases q
      exact ⟨v, s.at_, s.tr.rp sub fun a ha o e => by rw [fzT_in ha]; exact e⟩
    · obtain ⟨w, a, b⟩ := ok.fz j e q
      exact ⟨w, a, b.mono sub⟩
  · rcases set_get h with ⟨rfl, q⟩ | ⟨n, q⟩
    · cases q
    · exact absurd q (no j o)
  · rcases set_get h1 with ⟨rfl, q⟩ | ⟨n, q⟩
    · cases q
    · exact absurd q (no j o1)
theorem sk_test {tt : TT} {tb : TS} (s : Sk K hi t Γ F0 H0 F H σ v as) (no : NoOw Γ) (h : Et K tt (Γ.set hi (.fz t.toD)) false) (fin : ∀ H1, Sk K hi t Γ F0 H0 F H1 σ v as → De.nx σ H1) : tIfS tt tb tNext De σ H := by
  refine h F0 H0 (fzT as F H) H σ (s.fz no) _ fun F3 H3 g3 => ?_
  exact fin H3 (s.grow ⟨Same.refl F, fun a o e => g3.h a o (s.ok.g.s a o e), g3.h, fun _ e _ => e⟩)
theorem sk_call {sp : Sp} {SN : List D → D → Prop} (s : Sk K hi t Γ F0 H0 F H σ v as) (hs : SN [t.toD] dm) (ne : mi ≠ hi)
    (fin : ∀ F1 H1 σ1, Same F F1 → Sk K hi t (Γ.set mi (.fz dm)) F0 H0 F1 H1 σ1 v as → De.nx σ1 H1) : tAsg (tCall (spOr sp (spN K SN)) [] E (tCons (tVar hi) tNil)) (gName mi) De σ H := by
  have fn : ∀ a ∈ as, F a = none := fun a ha => (s.tr.free a ha).1
  have sub := fzT_sub (H := H) fn
  refine ⟨v, s.at_, .inr ⟨fzT as F H, [t.toD], dm, fzT_sup s.ok.g.s, by rw [List.append_nil]; exact .one (s.tr.rp sub fun a ha o e => by rw [fzT_in ha]; exact e), hs, fun v2 F2 H2 g2 r2 => ?_⟩⟩
  let G : Hp := fun a => if a ∈ as then none else F2 a
  have Gi : ∀ {a}, a ∈ as → G a = none := fun {a} h => if_pos h
  have Go : ∀ {a}, a ∉ as → G a = F2 a := fun {a} h => if_neg h
  have g : Gr F H G H2 := by
    refine ⟨fun a o e => ?_, fun a o e => ?_, g2.h, fun a h1 h2 => ?_⟩
    · have na : a ∉ as := fun z => by rw [fn a z] at e; cases e
      rw [Go na]
      exact g2.f a o (sub a o e)
    · by_cases z : a ∈ as
      · rw [Gi z] at e; cases e
      · rw [Go z] at e; exact g2.s a o e
    · by_cases z : a ∈ as
      · exact Gi z
      · rw [Go z]
        exact g2.n a (by rw [fzT_out z]; exact h1) h2
  have fs : Same (fr H F2) G := fun a o e => by
    have e2 := fr_sub H F2 a o e
    by_cases z : a ∈ as
    · obtain ⟨_, ws, hw⟩ := s.tr.free a z
      have e3 := g2.f a _ (show fzT as F H a = some (.lst ws) by rw [fzT_in z]; exact hw)
      unfold fr at e
      rw [if_pos ⟨(by rw [hw]; exact fun y => (nomatch y)), ws, e3⟩] at e
      cases e
    · rw [Go z]; exact e2
  have s2 := s.grow g
  exact fin G H2 _ g.f ⟨s2.ok.set (r2.mono fs), by rw [List.getElem?_set_ne ne]; exact s2.at_, s2.tr, s2.nw⟩
/-! ### it is changed -/
theorem Ok.poke (ok : Ok K F0 H0 F H σ Γ) (no : NoOw Γ) {p : Addr} {o : HO} (h1 : F p = none) (h2 : H0 p = none) : Ok K F0 H0 F (upd H p o) σ Γ :=
  ⟨⟨ok.g.f, fun a u e => by rw [upd_ne (ne_of_none e h1)]; exact ok.g.s a u e, fun a u e => by rw [upd_ne (ne_of_none e h2)]; exact ok.g.h a u e, ok.g.n⟩, ok.len, ok.fz, fun i o' h => absurd h (no i o'), fun i j a b p' _ h => absurd h (no i a)⟩
theorem Ok.noAt (ok : Ok K F0 H0 F H σ Γ) {i : Nat} (h : Γ[i]? = some .no) (x : Option V) : Ok K F0 H0 F H (σ.set i x) Γ := by
  have z := ok.no i x
  have e : Γ.set i .no = Γ := by
    apply List.ext_getElem?
    intro j
    by_cases hj : i = j
    · subst hj
      rw [List.getElem?_set_self (List.getElem?_eq_some_iff.mp h).1, h]
    · rw [List.getElem?_set_ne hj]
  rw [e] at z
  exact z
theorem for_at {g : TG} {ts : TS} (q : Addr) (vs : List V) (P : Nat → L2.St → Hp → Prop) (h0 : ∀ Q : VK, Q (.ref q) H → te σ H Q) (hq : ∀ i σ H, P i σ H → H q = some (.lst vs)) (p0 : P 0 σ H)
    (step : ∀ i (hi : i < vs.length) σ H, P i σ H → g vs[i] σ H fun σ2 H2 => ts { De with nx := P (i + 1), ct := P (i + 1), bk := De.nx } σ2 H2) (fin : ∀ σ H, P vs.length σ H → De.nx σ H) : tFor (iList K te) g ts De σ H := by
  have sq : ∀ {i σ H}, P i σ H → SqL K H q vs := fun {i σ H} p => .inl (.inl (hq i σ H p))
  refine h0 _ ⟨q, rfl, ⟨vs, sq p0⟩, fun i m σ H => m = vs.length - i ∧ i ≤ vs.length ∧ P i σ H, ⟨vs.length, rfl, Nat.zero_le _, p0⟩, ?_⟩
  rintro i m σ2 H2 ⟨rfl, hi, p⟩
  by_cases hlt : i < vs.length
  · refine .inr ⟨⟨vs, vs[i], sq p, List.getElem?_eq_getElem hlt⟩, P (i + 1), fun σ' H' z => ⟨vs.length - (i + 1), by omega, rfl, by omega, z⟩, fun x H3 hy => ?_⟩
    obtain ⟨rfl, hx⟩ := hy
    have e := hx vs (sq p)
    rw [List.getElem?_eq_getElem hlt] at e
    cases e
    exact step i hlt σ2 H3 p
  · have e : i = vs.length := by omega
    subst e
    exact .inl ⟨⟨vs, sq p, Nat.le_refl _⟩, fin σ2 H2 p⟩
end
end DL

namespace DL
open PySem PySem.Spec PyProof.Rows L2
/-! ### a text, a list, tables, a list: handed in, then changed -/
def hT (x : Str) (bs : List D) (Us : List (List (List D))) (es : List D) : Tr := .nd [.lf (.str x), .nd (bs.map .lf), .nd (Us.map fun U => .nd (U.map fun r => .nd (r.map .lf))), .nd (es.map .lf)]
def flatL (L : List (Addr × List Addr)) : List Addr := L.flatMap fun p => p.1 :: p.2
section
variable {K : PySem.W.Frag} {F H : Hp}
theorem tra_lf_inv : ∀ {ds : List D} {vs : List V} {as : List Addr}, TrA K F H vs (ds.map .lf) as → as = [] ∧ vs.length = ds.length
  | [], _, _, r => by cases r; exact ⟨rfl, rfl⟩
  | d :: ds, _, _, r => by
    cases r with
    | cons h r n =>
      cases h
      obtain ⟨a, b⟩ := tra_lf_inv r
      exact ⟨by rw [a]; rfl, by rw [List.length_cons, b]; rfl⟩
theorem list_inv {ds : List D} {v : V} {as : List Addr} (r : TrR K F H v (.nd (ds.map .lf)) as) : ∃ p ws, v = .ref p ∧ as = [p] ∧ H p = some (.lst ws) ∧ ws.length = ds.length := by
  cases r with
  | nd h f r n =>
    obtain ⟨a, b⟩ := tra_lf_inv r
    subst a
    exact ⟨_, _, rfl, rfl, h, b⟩
theorem rows_inv : ∀ {rs : List (List D)} {vs : List V} {as : List Addr}, TrA K F H vs (rs.map fun r => .nd (r.map .lf)) as → vs = as.map V.ref ∧ as.length = rs.length ∧ ∀ a ∈ as, ∃ ws, H a = some (.lst ws)
  | [], _, _, r => by cases r; exact ⟨rfl, rfl, fun a ha => nomatch ha⟩
  | d :: rs, _, _, r => by
    cases r with
    | cons h r n =>
      obtain ⟨p, ws, rfl, rfl, hp, _⟩ := list_inv h
      obtain ⟨a, b, c⟩ := rows_inv r
      refine ⟨by rw [a]; rfl, by rw [List.length_append, b, List.length_singleton, List.length_cons, Nat.add_comm], fun x hx => ?_⟩
      rcases List.mem_append.mp hx with e | e
      · rw [List.mem_singleton.mp e]; exact ⟨ws, hp⟩
      · exact c x e
theorem tabs_inv : ∀ {Us : List (List (List D))} {vs : List V} {as : List Addr}, TrA K F H vs (Us.map fun U => .nd (U.map fun r => .nd (r.map .lf))) as →
    ∃ L : List (Addr × List Addr), vs = L.map (fun p => V.ref p.1) ∧ as = flatL L ∧ ∀ p ∈ L, H p.1 = some (.lst (p.2.map V.ref)) ∧ (∃ U ∈ Us, p.2.length = U.length) ∧ ∀ r ∈ p.2, ∃ ws, H r = some (.lst ws)
  | [], _, _, r => by cases r; exact ⟨[], rfl, rfl, fun p hp => nomatch hp⟩
  | U :: Us, _, _, r => by
    cases r with
    | cons h r n =>
      obtain ⟨L, a, b, c⟩ := tabs_inv r
      cases h with
      | @nd p vs' ts' as' hp hf hr hn =>
        obtain ⟨x, y, z⟩ := rows_inv hr
        refine ⟨(p, as') :: L, by rw [a]; rfl, by rw [b]; rfl, fun q hq => ?_⟩
        rcases List.mem_cons.mp hq with e | e
        · subst e
          exact ⟨by rw [hp, x], ⟨U, List.mem_cons_self, y⟩, z⟩
        · obtain ⟨c1, ⟨V', c2, c3⟩, c4⟩ := c q e
          exact ⟨c1, ⟨V', List.mem_cons_of_mem _ c2, c3⟩, c4⟩
structure Hk (H : Hp) (bs : List D) (Us : List (List (List D))) (es : List D) (v : V) (as : List Addr) (h b m e : Addr) (vx : V) (wb we : List V) (L : List (Addr × List Addr)) : Prop where
  qv : v = .ref h
  qh : H h = some (.lst [vx, .ref b, .ref m, .ref e])
  qb : H b = some (.lst wb)
  lb : wb.length = bs.length
  qm : H m = some (.lst (L.map fun p => V.ref p.1))
  qe : H e = some (.lst we)
  qL : ∀ p ∈ L, H p.1 = some (.lst (p.2.map V.ref)) ∧ (∃ U ∈ Us, p.2.length = U.length) ∧ ∀ r ∈ p.2, ∃ ws, H r = some (.lst ws)
  qa : as = h :: b :: m :: (flatL L ++ [e])
theorem hk_of {x : Str} {bs : List D} {Us : List (List (List D))} {es : List D} {v : V} {as : List Addr} (r : TrR K F H v (hT x bs Us es) as) : ∃ h b m e vx wb we L, Hk H bs Us es v as h b m e vx wb we L := by
  unfold hT at r
  cases r with
  | nd hh f r n =>
    cases r with
    | cons r1 r n1 =>
      cases r1
      cases r with
      | cons r2 r n2 =>
        obtain ⟨b, wb, rfl, rfl, hb, lb⟩ := list_inv r2
        cases r with
        | cons r3 r n3 =>
          cases r3 with
          | nd hm fm rm nm =>
            obtain ⟨L, e1, e2, e3⟩ := tabs_inv rm
            subst e1 e2
            cases r with
            | cons r4 r n4 =>
              obtain ⟨e, we, rfl, rfl, he, le⟩ := list_inv r4
              cases r
              exact ⟨_, _, _, _, _, _, _, L, rfl, hh, hb, lb, hm, he, e3, by simp⟩
end
section
variable {K : PySem.W.Frag} {E : XK} {hi mi ti ri : Nat} {Γ : Gam} {F0 H0 F H Hs : Hp} {σ : L2.St} {De : Ends} {as : List Addr} {h b m e : Addr} {vx v : V} {wb we : List V} {L : List (Addr × List Addr)} {bs es : List D} {Us : List (List (List D))}
/-- what is still as it was -/
structure Mp (K : PySem.W.Frag) (hi : Nat) (Γ : Gam) (F0 H0 F Hs : Hp) (as : List Addr) (h : Addr) (del : List Addr) (σ : L2.St) (H : Hp) : Prop where
  ok : Ok K F0 H0 F H σ Γ
  at_ : σ[hi]? = some (some (.ref h))
  as : ∀ a ∈ as, a ∉ del → H a = Hs a
theorem Mp.mono {del del' : List Addr} (s : Mp K hi Γ F0 H0 F Hs as h del σ H) (c : ∀ a ∈ del, a ∈ del') : Mp K hi Γ F0 H0 F Hs as h del' σ H := ⟨s.ok, s.at_, fun a ha n => s.as a ha fun z => n (c a z)⟩
theorem Mp.poke {del : List Addr} {p : Addr} {o : HO} (s : Mp K hi Γ F0 H0 F Hs as h del σ H) (no : NoOw Γ) (fr : ∀ a ∈ as, F a = none ∧ H0 a = none) (hp : p ∈ as) : Mp K hi Γ F0 H0 F Hs as h (p :: del) σ (upd H p o) :=
  ⟨s.ok.poke no (fr p hp).1 (fr p hp).2, s.at_, fun a ha n => by
    rw [upd_ne fun z => n (by rw [z]; exact List.mem_cons_self)]
    exact s.as a ha fun z => n (List.mem_cons_of_mem _ z)⟩
theorem Mp.setNo {del : List Addr} {i : Nat} {x : Option V} (s : Mp K hi Γ F0 H0 F Hs as h del σ H) (hn : Γ[i]? = some .no) (ne : i ≠ hi) : Mp K hi Γ F0 H0 F Hs as h del (σ.set i x) H := ⟨s.ok.noAt hn x, by rw [List.getElem?_set_ne ne]; exact s.at_, s.as⟩
theorem flat_at {i : Nat} (hi : i < L.length) : flatL L = flatL (L.take i) ++ (L[i].1 :: L[i].2) ++ flatL (L.drop (i + 1)) := by
  have e := List.take_append_drop i L
  rw [List.drop_eq_getElem_cons hi] at e
  conv => lhs; rw [← e]
  unfold flatL
  rw [List.flatMap_append, List.flatMap_cons]
  simp
theorem flat_take {i : Nat} (hi : i < L.length) : flatL (L.take (i + 1)) = flatL (L.take i) ++ (L[i].1 :: L[i].2) := by
  rw [List.take_add_one, List.getElem?_eq_getElem hi]
  unfold flatL
  rw [List.flatMap_append]
  simp
theorem ev_ix {k : Int} {vs : List V} {w : V} (ha : σ[hi]? = some (some (.ref h))) (hh : H h = some (.lst vs)) (hk : atI vs k = some w) : ∀ Q : VK, Q w H → tOp (rIx K) (tVar hi) (tC (.int k)) σ H Q := fun Q q =>
  ⟨.ref h, ha, .inl ⟨h, vs, k, w, rfl, rfl, SqL.of hh, hk, q⟩⟩
theorem mp_for (s : Mp K hi Γ F0 H0 F Hs as h [] σ H) (hk : Hk Hs bs Us es v as h b m e vx wb we L) (nd : as.Nodup) (no : NoOw Γ) (fr : ∀ a ∈ as, F a = none ∧ H0 a = none) (sz : ∀ U ∈ Us, U.length ≤ 1000) (n1 : Γ[ti]? = some .no) (n2 : Γ[ri]? = some .no) (ht : ti ≠ hi) (hr : ri ≠ hi) (htr : ri ≠ ti)
    (fin : ∀ σ1 H1, Mp K hi Γ F0 H0 F Hs as h (flatL L) σ1 H1 → De.nx σ1 H1) :
    tFor (iList K (tOp (rIx K) (tVar hi) (tC (.int 2)))) (gName ti) (tSeq (tFor (iList K (tVar ti)) (gName ri) (tDrop (tBM0 K "list" rClear (tVar ri)))) (tDrop (tBM K "list" rAppend (tVar ti) (tCons (tC (.int 7)) tNil)))) De σ H := by
  have ha := hk.qa
  subst ha
  have ndh := List.nodup_cons.mp nd
  have ndb := List.nodup_cons.mp ndh.2
  have ndm := List.nodup_cons.mp ndb.2
  have ndL := (List.nodup_append.mp ndm.2).1
  have mL : ∀ a ∈ flatL L, a ∈ h :: b :: m :: (flatL L ++ [e]) := fun a z => by simp [z]
  have mm : m ∈ h :: b :: m :: (flatL L ++ [e]) := by simp
  have tkL : ∀ i, ∀ a ∈ flatL (L.take i), a ∈ flatL L := fun i a z => by
    obtain ⟨p, hp, q⟩ := List.mem_flatMap.mp z
    exact List.mem_flatMap.mpr ⟨p, List.mem_of_mem_take hp, q⟩
  have nm : m ∉ flatL L := fun z => ndm.1 (List.mem_append_left _ z)
  refine for_at m (L.map fun p => V.ref p.1) (fun i σ H => Mp K hi Γ F0 H0 F Hs (h :: b :: m :: (flatL L ++ [e])) h (flatL (L.take i)) σ H) (ev_ix s.at_ (by rw [s.as h List.mem_cons_self (fun z => nomatch z)]; exact hk.qh) rfl) (fun i σ H p => by rw [p.as m mm fun z => nm (tkL i m z)]; exact hk.qm) s (fun i hil σ H p => ?_) fun σ1 H1 p => ?_
  · have hi' : i < L.length := by simpa using hil
    have hp := List.getElem_mem hi'
    obtain ⟨c1, ⟨U, hU, c2⟩, c3⟩ := hk.qL _ hp
    have fa := flat_at hi'
    rw [List.getElem_map]
    generalize eL : L[i] = pr at hp c1 c2 c3 fa
    obtain ⟨t, rs⟩ := pr
    have nd2 := fa ▸ ndL
    have nd3 := (List.nodup_append.mp nd2).1
    have nd4 := List.nodup_append.mp nd3
    have nd5 := List.nodup_cons.mp nd4.2.1
    have tm : t ∈ flatL L := by rw [fa]; simp
    have rm : ∀ r ∈ rs, r ∈ flatL L := fun r z => by rw [fa]; simp [z]
    have t0 : t ∉ flatL (L.take i) := fun z => nd4.2.2 t z t List.mem_cons_self rfl
    have r0 : ∀ r ∈ rs, r ∉ flatL (L.take i) := fun r hr z => nd4.2.2 r z r (List.mem_cons_of_mem _ hr) rfl
    show tFor (iList K (tVar ti)) (gName ri) _ { De with nx := _, ct := _, bk := _ } (σ.set ti (some (.ref t))) H
    have tl : ti < σ.length := by rw [p.ok.len]; exact (List.getElem?_eq_some_iff.mp n1).1
    refine for_at t (rs.map V.ref) (fun k σ H => Mp K hi Γ F0 H0 F Hs (h :: b :: m :: (flatL L ++ [e])) h (flatL (L.take i) ++ rs.take k) σ H ∧ σ[ti]? = some (some (.ref t))) (fun Q q => ⟨.ref t, List.getElem?_set_self tl, q⟩) (fun k σ H p2 => ?_) ⟨by rw [List.take_zero, List.append_nil]; exact p.setNo n1 ht, List.getElem?_set_self tl⟩ (fun k hkl σ2 H2 p2 => ?_) fun σ2 H2 p2 => ?_
    · rw [p2.1.as t (mL t tm) fun z => ?_]
      · exact c1
      · rcases List.mem_append.mp z with y | y
        · exact t0 y
        · exact nd5.1 (List.mem_of_mem_take y)
    · have hk' : k < rs.length := by simpa using hkl
      have hr' := List.getElem_mem hk'
      rw [List.getElem_map]
      obtain ⟨ws, hws⟩ := c3 _ hr'
      have rl : ri < σ2.length := by rw [p2.1.ok.len]; exact (List.getElem?_eq_some_iff.mp n2).1
      have nk : rs[k] ∉ flatL (L.take i) ++ rs.take k := fun z => by
        rcases List.mem_append.mp z with y | y
        · exact r0 _ hr' y
        · have e1 := List.take_append_drop k rs
          rw [List.drop_eq_getElem_cons hk'] at e1
          have n6 := e1 ▸ nd5.2
          exact (List.nodup_append.mp n6).2.2 _ y _ List.mem_cons_self rfl
      have hv : H2 rs[k] = some (.lst ws) := by rw [p2.1.as _ (mL _ (rm _ hr')) nk]; exact hws
      have p3 := (p2.1.setNo (x := some (.ref rs[k])) n2 hr).poke (o := .lst []) no fr (mL _ (rm _ hr'))
      refine ⟨.ref rs[k], List.getElem?_set_self rl, tyV_list hv, rs[k], ws, rfl, rfl, hv, p3.mono fun a z => ?_, by rw [List.getElem?_set_ne htr]; exact p2.2⟩
      rw [List.take_add_one, List.getElem?_eq_getElem hk']
      rcases List.mem_cons.mp z with y | y
      · rw [y]; exact List.mem_append_right _ (List.mem_append_right _ (List.mem_singleton.mpr rfl))
      · rcases List.mem_append.mp y with y | y
        · exact List.mem_append_left _ y
        · exact List.mem_append_right _ (List.mem_append_left _ y)
    · rw [List.length_map, List.take_length] at p2
      have hv : H2 t = some (.lst (rs.map V.ref)) := by
        rw [p2.1.as t (mL t tm) fun z => ?_]
        · exact c1
        · rcases List.mem_append.mp z with y | y
          · exact t0 y
          · exact nd5.1 y
      have p3 := p2.1.poke (o := .lst (rs.map V.ref ++ [.int 7])) no fr (mL t tm)
      refine ⟨.ref t, p2.2, tyV_list hv, t, rs.map V.ref, .int 7, rfl, rfl, hv, ?_, p3.mono fun a z => ?_⟩
      · rw [List.length_map]
        have c4 : rs.length = U.length := c2
        exact Nat.lt_of_lt_of_le (show rs.length < 1001 by have := sz U hU; omega) (by decide)
      · rw [flat_take hi', eL]
        rcases List.mem_cons.mp z with y | y
        · rw [y]; simp
        · rcases List.mem_append.mp y with y | y
          · exact List.mem_append_left _ y
          · exact List.mem_append_right _ (List.mem_cons_of_mem _ y)
  · rw [List.length_map, List.take_length] at p
    exact fin σ1 H1 p
theorem mp_clear {del : List Addr} {k : Int} {p : Addr} {ws : List V} (s : Mp K hi Γ F0 H0 F Hs as h del σ H) (no : NoOw Γ) (fr : ∀ a ∈ as, F a = none ∧ H0 a = none) (hh : Hs h = some (.lst [vx, .ref b, .ref m, .ref e])) (h1 : h ∈ as) (h2 : h ∉ del) (hk : atI [vx, .ref b, .ref m, .ref e] k = some (.ref p)) (hp : Hs p = some (.lst ws)) (p1 : p ∈ as) (p2 : p ∉ del)
    (fin : ∀ H1, Mp K hi Γ F0 H0 F Hs as h (p :: del) σ H1 → De.nx σ H1) : tDrop (tBM0 K "list" rClear (tOp (rIx K) (tVar hi) (tC (.int k)))) De σ H := by
  have hv : H p = some (.lst ws) := by rw [s.as p p1 p2]; exact hp
  exact ev_ix s.at_ (by rw [s.as h h1 h2]; exact hh) hk _ ⟨tyV_list hv, p, ws, rfl, rfl, hv, fin _ (s.poke no fr p1)⟩
theorem mp_app {del : List Addr} {k : Int} {p : Addr} {ws : List V} (s : Mp K hi Γ F0 H0 F Hs as h del σ H) (no : NoOw Γ) (fr : ∀ a ∈ as, F a = none ∧ H0 a = none) (hh : Hs h = some (.lst [vx, .ref b, .ref m, .ref e])) (h1 : h ∈ as) (h2 : h ∉ del) (hk : atI [vx, .ref b, .ref m, .ref e] k = some (.ref p)) (hp : Hs p = some (.lst ws)) (lw : ws.length ≤ 1000) (p1 : p ∈ as) (p2 : p ∉ del)
    (all : ∀ a ∈ as, ∃ o, Hs a = some o) (fin : ∀ H1, Mp K hi Γ F0 H0 F Hs as h (p :: del) σ H1 → De.nx σ H1) : tDrop (tBM K "list" rAppend (tOp (rIx K) (tVar hi) (tC (.int k))) (tCons (tTup (tCons (tC (.int 1)) (tCons (tC (.int 1)) tNil))) tNil)) De σ H := by
  have hv : H p = some (.lst ws) := by rw [s.as p p1 p2]; exact hp
  refine ev_ix s.at_ (by rw [s.as h h1 h2]; exact hh) hk _ ⟨tyV_list hv, by decide, fun q hq => ?_⟩
  have hne : p ≠ q := fun z => by rw [z, hq] at hv; cases hv
  have s2 : Mp K hi Γ F0 H0 F Hs as h del σ (upd H q (.tup [.int 1, .int 1])) := ⟨s.ok.grow (Gr.newO s.ok.g.s hq), s.at_, fun a ha n => by
    have e1 := s.as a ha n
    obtain ⟨o, ho⟩ := all a ha
    rw [upd_ne fun z => by rw [z] at e1; rw [hq] at e1; rw [← z] at e1; rw [ho] at e1; cases e1]
    exact e1⟩
  exact ⟨p, ws, _, rfl, rfl, by rw [upd_ne hne]; exact hv, Nat.lt_of_le_of_lt lw (by decide), fin _ (s2.poke no fr p1)⟩
/-- the whole -/
theorem sd_scratch {x : Str} {te1 : TE} {tt : TT} {tb ts : TS} {sp : Sp} {SN : List D → D → Prop} {dm : D} {E' : XK} {o : Oc} (hw : Wt K te1 Γ (hT x bs Us es)) (no : NoOw Γ) (hl : hi < Γ.length) (hs : SN [(hT x bs Us es).toD] dm) (ne : mi ≠ hi)
    (ht : Et K tt (((Γ.set hi .no).set mi (.fz dm)).set hi (.fz (hT x bs Us es).toD)) false) (n1 : ((Γ.set hi .no).set mi (.fz dm))[ti]? = some .no) (n2 : ((Γ.set hi .no).set mi (.fz dm))[ri]? = some .no) (h1 : ti ≠ hi) (h2 : ri ≠ hi) (h3 : ri ≠ ti)
    (sz : ∀ U ∈ Us, U.length ≤ 1000) (sb : bs.length ≤ 1000) (rest : Sd K E ts ((Γ.set hi .no).set mi (.fz dm)) o) :
    Sd K E (tSeq (tAsg te1 (gName hi)) (tSeq (tAsg (tCall (spOr sp (spN K SN)) [] E' (tCons (tVar hi) tNil)) (gName mi)) (tSeq (tIfS tt tb tNext)
      (tSeq (tFor (iList K (tOp (rIx K) (tVar hi) (tC (.int 2)))) (gName ti) (tSeq (tFor (iList K (tVar ti)) (gName ri) (tDrop (tBM0 K "list" rClear (tVar ri)))) (tDrop (tBM K "list" rAppend (tVar ti) (tCons (tC (.int 7)) tNil)))))
      (tSeq (tDrop (tBM K "list" rAppend (tOp (rIx K) (tVar hi) (tC (.int 1))) (tCons (tTup (tCons (tC (.int 1)) (tCons (tC (.int 1)) tNil))) tNil)))
      (tSeq (tDrop (tBM0 K "list" rClear (tOp (rIx K) (tVar hi) (tC (.int 2))))) (tSeq (tDrop (tBM0 K "list" rClear (tOp (rIx K) (tVar hi) (tC (.int 3))))) ts))))))) Γ o := fun F0 H0 F H σ De ok fin => by
  have noS : ∀ {Γ : Gam} {i : Nat} {s : Sl}, NoOw Γ → (∀ o, s ≠ .own o) → NoOw (Γ.set i s) := fun {Γ i s} n hs j o e => by
    rcases set_get e with ⟨_, q⟩ | ⟨_, q⟩
    · exact hs o q.symm
    · exact n j o q
  have no1 : NoOw (Γ.set hi .no) := noS no fun o e => nomatch e
  have no2 : NoOw ((Γ.set hi .no).set mi (.fz dm)) := noS no1 fun o e => nomatch e
  refine sk_new ok hw hl fun F1 H1 σ1 v as e1 s1 => ?_
  refine sk_call s1 hs ne fun F2 H2 σ2 e2 s2 => ?_
  refine sk_test s2 no2 ht fun H3 s3 => ?_
  obtain ⟨h, b, m, e, vx, wb, we, L, hk⟩ := hk_of s3.tr
  have nd := s3.tr.nodup
  have fr : ∀ a ∈ as, F2 a = none ∧ H0 a = none := fun a ha => ⟨(s3.tr.free a ha).1, s3.nw a ha⟩
  have all : ∀ a ∈ as, ∃ o, H3 a = some o := fun a ha => by
    obtain ⟨_, ws, q⟩ := s3.tr.free a ha
    exact ⟨_, q⟩
  have ev := hk.qv
  subst ev
  have mp : Mp K hi ((Γ.set hi .no).set mi (.fz dm)) F0 H0 F2 H3 as h [] σ2 H3 := ⟨s3.ok, s3.at_, fun a _ _ => rfl⟩
  have ea := hk.qa
  have ndh := List.nodup_cons.mp (ea ▸ nd)
  have ndb := List.nodup_cons.mp ndh.2
  have ndm := List.nodup_cons.mp ndb.2
  have nde := (List.nodup_append.mp ndm.2).2.2
  have mh : h ∈ as := by rw [ea]; simp
  have mb : b ∈ as := by rw [ea]; simp
  have mm : m ∈ as := by rw [ea]; simp
  have me : e ∈ as := by rw [ea]; simp
  have hb : h ≠ b := fun z => ndh.1 (by rw [z]; simp)
  have hm : h ≠ m := fun z => ndh.1 (by rw [z]; simp)
  have he : h ≠ e := fun z => ndh.1 (by rw [z]; simp)
  have hL : h ∉ flatL L := fun z => ndh.1 (by simp [z])
  have bm : b ≠ m := fun z => ndb.1 (by rw [z]; simp)
  have be : b ≠ e := fun z => ndb.1 (by rw [z]; simp)
  have bL : b ∉ flatL L := fun z => ndb.1 (by simp [z])
  have me' : m ≠ e := fun z => ndm.1 (by rw [z]; simp)
  have mL : m ∉ flatL L := fun z => ndm.1 (by simp [z])
  have eL : e ∉ flatL L := fun z => nde e z e (by simp) rfl
  refine mp_for mp hk nd no2 fr sz n1 n2 h1 h2 h3 fun σ4 H4 m4 => ?_
  refine mp_app m4 no2 fr hk.qh mh hL (k := 1) rfl hk.qb (by rw [hk.lb]; exact sb) mb bL all fun H5 m5 => ?_
  refine mp_clear m5 no2 fr hk.qh mh (fun z => (List.mem_cons.mp z).elim hb hL) (k := 2) rfl hk.qm mm (fun z => (List.mem_cons.mp z).elim (fun y => bm y.symm) mL) fun H6 m6 => ?_
  refine mp_clear m6 no2 fr hk.qh mh (fun z => (List.mem_cons.mp z).elim hm fun z => (List.mem_cons.mp z).elim hb hL) (k := 3) rfl hk.qe me (fun z => (List.mem_cons.mp z).elim (fun y => me' y.symm) fun z => (List.mem_cons.mp z).elim (fun y => be y.symm) eL) fun H7 m7 => ?_
  exact rest F0 H0 F2 H7 σ4 De m7.ok (fin.mono (e1.trans e2))
end
end DL

namespace DL
open PySem PySem.Spec PyProof.Rows L2
/-! ### tuple(list); an item of an owned list; cuts of lists -/
section
variable {K : PySem.W.Frag} {Γ : Gam} {d : D} {ds : List D} {tx : TE}
theorem rc_tupL : RcD K (fun xs H Q => ∃ p ys, xs = [.ref p] ∧ ((SqL K H p ys ∧ ∀ l, H l = none → Q (.ref l) (upd H l (.tup ys))) ∨ (SqT K H p ys ∧ Q (.ref p) H))) [.lst ds] (.tup ds) := fun F H vs s r Q q => by
  cases r with
  | cons r rr =>
    cases rr
    cases r with
    | @lst a xs _ ha ra =>
      refine ⟨a, xs, rfl, .inl ⟨.inl (.inl (s _ _ ha)), fun l hl => ?_⟩⟩
      have g := Gr.new (o := .tup xs) s hl
      exact q _ _ _ g (.tup (.inl (.inl upd_same)) (ra.mono g.f))
theorem ed_ixO (i : Nat) {k : Int} (hi : Γ[i]? = some (.ow ds)) (hx : Ed K tx Γ (.int k)) (hk : atI ds k = some d) : Ed K (tOp (rIx K) (tVar i) tx) Γ d := fun F0 H0 F H σ ok Q q => by
  obtain ⟨p, ho, a, b, c, e, r, _⟩ := ok.ow i (.lst ds) hi
  obtain ⟨vs, rfl, r'⟩ : ∃ vs, ho = .lst vs ∧ RpA K F vs ds := by
    cases r with
    | lst r => exact ⟨_, rfl, r⟩
  refine ⟨.ref p, a, ?_⟩
  refine hx F0 H0 F H σ ok _ fun w F2 H2 g2 r2 => ?_
  cases r2
  obtain ⟨c2, b2⟩ := g2.out c b
  obtain ⟨z, hz, rz⟩ := atI_rp (r'.mono g2.f) hk
  exact .inl ⟨p, vs, k, z, rfl, rfl, .inl (.inl b2), hz, q _ F2 H2 g2 rz⟩
end
theorem cutD_to (ds : List D) (k : Nat) : cutD ds none (some (k : Int)) = ds.take k := by
  unfold cutD
  rw [HT.sIx_none, HT.sIx_nat, List.drop_zero, Nat.sub_zero]
  rcases Nat.le_total k ds.length with h | h
  · rw [Nat.min_eq_left h]
  · rw [Nat.min_eq_right h, List.take_of_length_le (Nat.le_refl _), List.take_of_length_le h]
theorem cutD_from (ds : List D) (k : Nat) : cutD ds (some (k : Int)) none = ds.drop k := by
  unfold cutD
  rw [HT.sIx_none, HT.sIx_nat]
  rcases Nat.le_total k ds.length with h | h
  · rw [Nat.min_eq_left h, List.take_of_length_le (by rw [List.length_drop]; exact Nat.le_refl _)]
  · rw [Nat.min_eq_right h, Nat.sub_self, List.take_zero, List.drop_eq_nil_of_le h]
end DL

namespace DL
open PySem PySem.Spec PyProof.Rows L2
/-! ### methods -/
/-- a class's method by its name -/
structure Cm (P : Program) (w : World) (K : PySem.W.Frag) (mg : Str → Option Value) (base : Heap) (CX : CXT) (k : Nat) (C : Addr) (m : Str) (sp : Sp) : Prop where
  ex : ∃ (f : Addr) (fd : FuncData) (ps : List Str), Meth K C m f ∧ FnOk P w K mg base CX k f fd ps sp ∧ Binds K fd ps []
section
variable {P : Program} {w : World} {K : PySem.W.Frag} {mg : Str → Option Value} {base : Heap} {m qual : Str} {st : Stmt} {C : Addr} {N ps : List Str} {k : Nat} {S : List D → D → Prop} {T : List D → Addr → Prop}
theorem cmR (D : Dm K C m qual ps st) (sc : FnScope N ps (defScope st)) (len : ∀ ds d, S ds d → ds.length = ps.length)
    (body : ∀ (f : Addr) (cdv : Value) (A : Around) (outer : List Env) (s : Shared) (H : Hp) (E : XK), Room k (A.deeper (envOfC qual (defScope st) s.heap.objs.size f cdv)) →
      ∃ t, PSs (cxOf CX0 P w K mg base N qual (defScope st) f cdv A outer s H E).nox (defBody st) t ∧ ∀ ds d, S ds d → Sd K E0 t (startG N ds) (.rt d)) : Cm P w K mg base CX0 (k + 1) C m (spR K S) := by
  obtain ⟨f, fd, M, F, b⟩ := D.ex
  exact ⟨f, fd, ps, M, fnR F sc len (body f), b⟩
theorem cmX (D : Dm K C m qual ps st) (sc : FnScope N ps (defScope st)) (len : ∀ ds d, S ds d → ds.length = ps.length) (len2 : ∀ ds C, T ds C → ds.length = ps.length)
    (body : ∀ (f : Addr) (cdv : Value) (A : Around) (outer : List Env) (s : Shared) (H : Hp) (E : XK), Room k (A.deeper (envOfC qual (defScope st) s.heap.objs.size f cdv)) →
      ∃ t, PSs (cxOf (L2.CX P w) P w K mg base N qual (defScope st) f cdv A outer s H E) (defBody st) t ∧ (∀ ds d, S ds d → Sd K E t (startG N ds) (.rt d)) ∧ (∀ ds C, T ds C → Sd K E t (startG N ds) (.ex C))) : Cm P w K mg base (L2.CX P w) (k + 1) C m (spX K S T) := by
  obtain ⟨f, fd, M, F, b⟩ := D.ex
  exact ⟨f, fd, ps, M, fnX F sc len len2 (body f), b⟩
end
section
variable {X : Cx} {k j : Nat} {m : Str} {C : Addr} {sp : Sp} {p pos apos : Pos} {o e : Expr} {es : List Expr} {ta : TE} {t : TA}
theorem pcm {pl : Sem Bool} (c : Cm X.prog X.w X.K X.mg X.base CX0 k C m sp) (cl : Cls X.K C) (hr : Room j X.A) (hk : k ≤ j) (he : PE X o ta) (ha : PA X (e :: es) t)
    (hst : starEach (e :: es) X.env = (false, eval e X.env) :: starEach es X.env := by rfl) (hpl : (backTo pos (starEach es X.env)).any (·.1) = false := by rfl)
    (ht : eval (.Call (.Attribute o m apos) (e :: es) [] pos) X.env = (do
      let ov ← eval o X.env
      standAt apos.atName
      let (f, first) ← holding [ov] (getMethod ov m pl)
      callWith pos f first (backTo pos (starEach (e :: es) X.env)) (backToKw pos (keywordEach [] X.env))) := by rfl) :
    PE X (.Call (.Attribute o m apos) (e :: es) [] pos) (tMeth C m sp [] E0 ta t) := by
  obtain ⟨f, fd, ps, M, F, b⟩ := c.ex
  exact pe_meth he cl M F (hr.mono hk) b .nil pass0 ha hst hpl ht
theorem pcm0 {pl : Sem Bool} (c : Cm X.prog X.w X.K X.mg X.base CX0 k C m sp) (cl : Cls X.K C) (hr : Room j X.A) (hk : k ≤ j) (he : PE X o ta)
    (ht : eval (.Call (.Attribute o m apos) [] [] pos) X.env = (do
      let ov ← eval o X.env
      standAt apos.atName
      let (f, first) ← holding [ov] (getMethod ov m pl)
      callWith pos f first (backTo pos (starEach [] X.env)) (backToKw pos (keywordEach [] X.env))) := by rfl) :
    PE X (.Call (.Attribute o m apos) [] [] pos) (tMeth C m sp [] E0 ta tNil) := by
  obtain ⟨f, fd, ps, M, F, b⟩ := c.ex
  exact pe_meth0 he cl M F (hr.mono hk) b .nil pass0 ht
/-- .. one that may raise, where errors are let out -/
theorem pcmR {pl : Sem Bool} {E : XK} (c : Cm X.prog X.w X.K X.mg X.base (L2.CX X.prog X.w) k C m sp) (cl : Cls X.K C) (hr : Room j X.A) (hk : k ≤ j) (hx : Passes (L2.CX X.prog X.w) X E) (he : PE X o ta) (ha : PA X (e :: es) t)
    (hst : starEach (e :: es) X.env = (false, eval e X.env) :: starEach es X.env := by rfl) (hpl : (backTo pos (starEach es X.env)).any (·.1) = false := by rfl)
    (ht : eval (.Call (.Attribute o m apos) (e :: es) [] pos) X.env = (do
      let ov ← eval o X.env
      standAt apos.atName
      let (f, first) ← holding [ov] (getMethod ov m pl)
      callWith pos f first (backTo pos (starEach (e :: es) X.env)) (backToKw pos (keywordEach [] X.env))) := by rfl) :
    PE X (.Call (.Attribute o m apos) (e :: es) [] pos) (tMeth C m sp [] E ta t) := by
  obtain ⟨f, fd, ps, M, F, b⟩ := c.ex
  exact pe_meth he cl M F (hr.mono hk) b .nil hx ha hst hpl ht
/-- .. one that may raise, where nothing is let out: it does not -/
theorem pcmX {pl : Sem Bool} (c : Cm X.prog X.w X.K X.mg X.base (L2.CX X.prog X.w) k C m sp) (cl : Cls X.K C) (hr : Room j X.A) (hk : k ≤ j) (he : PE X o ta) (ha : PA X (e :: es) t)
    (hst : starEach (e :: es) X.env = (false, eval e X.env) :: starEach es X.env := by rfl) (hpl : (backTo pos (starEach es X.env)).any (·.1) = false := by rfl)
    (ht : eval (.Call (.Attribute o m apos) (e :: es) [] pos) X.env = (do
      let ov ← eval o X.env
      standAt apos.atName
      let (f, first) ← holding [ov] (getMethod ov m pl)
      callWith pos f first (backTo pos (starEach (e :: es) X.env)) (backToKw pos (keywordEach [] X.env))) := by rfl) :
    PE X (.Call (.Attribute o m apos) (e :: es) [] pos) (tMeth C m sp [] E0 ta t) := by
  obtain ⟨f, fd, ps, M, F, b⟩ := c.ex
  exact pe_meth he cl M F (hr.mono hk) b .nil passL ha hst hpl ht
end
section
variable {K : PySem.W.Frag} {E : XK} {Γ : Gam} {d : D} {ds : List D} {ta : TE} {tas : TA} {S : List D → D → Prop} {T : List D → Addr → Prop} {C C' : Addr} {m : Str} {gs : List (Str × D)}
theorem ed_meth {E' : XK} (ho : Ed K ta Γ (.ins C gs)) (hm : gs.lookup m = none) (h : Ea K tas Γ ds) (hs : S (.ins C gs :: ds) d) : Ed K (tMeth C m (spR K S) [] E' ta tas) Γ d := fun F0 H0 F H σ ok Q q => ho F0 H0 F H σ ok _ fun v F1 H1 g1 r1 => by
  cases r1 with
  | @ins a C dx fs gs e rf =>
    refine ⟨a, dx, fs, rfl, g1.s _ _ e, rf.lookNone hm, ?_⟩
    exact h F0 H0 F1 H1 σ (ok.grow g1) _ fun vs F2 H2 g2 r2 => ⟨F2, _, d, g2.s, .cons (.ins (g2.f _ _ e) (rf.mono g2.f)) (by rw [List.append_nil]; exact r2), hs, fun v F3 H3 g3 r3 => q v F3 H3 (g1.trans (g2.trans g3)) r3⟩
theorem ed_methX {E' : XK} (ho : Ed K ta Γ (.ins C gs)) (hm : gs.lookup m = none) (h : Ea K tas Γ ds) (hs : S (.ins C gs :: ds) d) : Ed K (tMeth C m (spX K S T) [] E' ta tas) Γ d := fun F0 H0 F H σ ok Q q => ho F0 H0 F H σ ok _ fun v F1 H1 g1 r1 => by
  cases r1 with
  | @ins a C dx fs gs e rf =>
    refine ⟨a, dx, fs, rfl, g1.s _ _ e, rf.lookNone hm, ?_⟩
    exact h F0 H0 F1 H1 σ (ok.grow g1) _ fun vs F2 H2 g2 r2 => ⟨F2, _, g2.s, .cons (.ins (g2.f _ _ e) (rf.mono g2.f)) (by rw [List.append_nil]; exact r2), .inl ⟨d, hs, fun v F3 H3 g3 r3 => q v F3 H3 (g1.trans (g2.trans g3)) r3⟩⟩
theorem xd_methX (ho : Ed K ta Γ (.ins C gs)) (hm : gs.lookup m = none) (h : Ea K tas Γ ds) (hs : T (.ins C gs :: ds) C') : Xd K E (tMeth C m (spX K S T) [] E ta tas) Γ C' := fun F0 H0 F H σ ok fin Q => ho F0 H0 F H σ ok _ fun v F1 H1 g1 r1 => by
  cases r1 with
  | @ins a C dx fs gs e rf =>
    refine ⟨a, dx, fs, rfl, g1.s _ _ e, rf.lookNone hm, ?_⟩
    exact h F0 H0 F1 H1 σ (ok.grow g1) _ fun vs F2 H2 g2 r2 => ⟨F2, _, g2.s, .cons (.ins (g2.f _ _ e) (rf.mono g2.f)) (by rw [List.append_nil]; exact r2), .inr ⟨C', hs, fun F3 H3 g3 => fin F3 H3 (g1.trans (g2.trans g3))⟩⟩
end
/-! ### d["x"] -/
theorem valV_map (k : Str) : ∀ fs : List (Str × V), valV (fs.map fun p => ((Sum.inr p.1 : Key), p.2)) (Sum.inr k) = fs.lookup k
  | [] => rfl
  | (f, v) :: fs => by
    have ih := valV_map k fs
    unfold valV at ih ⊢
    rw [List.map_cons, List.find?_cons]
    by_cases h : f = k
    · subst h
      simp [List.lookup]
    · have h1 : decide ((Sum.inr f : Key) = Sum.inr k) = false := decide_eq_false fun e => h (by cases e; rfl)
      have h2 : (k == f) = false := beq_eq_false_iff_ne.mpr fun e => h e.symm
      rw [h1]
      simp only [List.lookup, h2]
      exact ih
theorem ed_dget {K : PySem.W.Frag} {Γ : Gam} {td : TE} {gs : List (Str × D)} {k : Str} {d : D} (ho : Ed K td Γ (.dic gs)) (hk : gs.lookup k = some d) : Ed K (tDGet td (tC (.str k))) Γ d := fun F0 H0 F H σ ok Q q => ho F0 H0 F H σ ok _ fun v F1 H1 g1 r1 => by
  cases r1 with
  | @dic a fs gs e rf =>
    obtain ⟨w, hw, rw'⟩ := rf.look hk
    exact ⟨a, w, rfl, by
      have z := DGet.k (k := Sum.inr k) (g1.s _ _ e)
      rw [valV_map, hw] at z
      exact z, q w F1 H1 g1 rw'⟩
theorem units1 {k : Nat} {A : Around} (r : Room k A) : A.units + 1 < cLine := by have := r.units; omega
end DL

namespace DL
open PySem PySem.Spec PyProof.Rows L2
/-! ### plain data need no instance -/
theorem rpa_all {K : PySem.W.Frag} {G G' : Hp} : ∀ {vs : List V} {ds : List D}, RpA K G vs ds → (∀ d ∈ ds, ∀ v, Rp K G v d → Rp K G' v d) → RpA K G' vs ds
  | _, _, .nil, _ => .nil
  | _, _, .cons h t, f => .cons (f _ List.mem_cons_self _ h) (rpa_all t fun d hd => f d (List.mem_cons_of_mem _ hd))
def NoIns (G G' : Hp) : Prop := ∀ a o, G a = some o → (∀ C dx fs, o ≠ .ins C dx fs) → G' a = some o
theorem Rp.plain {K : PySem.W.Frag} {n : Nat} {d : D} (h : Pl n d) : ∀ {G G' : Hp}, NoIns G G' → ∀ {v : V}, Rp K G v d → Rp K G' v d := by
  induction h with
  | non => intro G G' _ v r; cases r; exact .non
  | bl b => intro G G' _ v r; cases r; exact .bl b
  | int i => intro G G' _ v r; cases r; exact .int i
  | str h => intro G G' _ v r; cases r; exact .str _
  | lst h ih =>
    intro G G' k v r
    cases r with
    | lst hs ha => exact .lst (k _ _ hs fun _ _ _ e => nomatch e) (rpa_all ha fun d hd v => ih d hd k)
  | tup h ih =>
    intro G G' k v r
    cases r with
    | tup hs ha =>
      refine .tup ?_ (rpa_all ha fun d hd v => ih d hd k)
      rcases hs with (hs | ⟨o, hs⟩) | hs
      · exact .inl (.inl (k _ _ hs fun _ _ _ e => nomatch e))
      · exact .inl (.inr ⟨o, k _ _ hs fun _ _ _ e => nomatch e⟩)
      · exact .inr hs
/-! ### results new to the heap at hand -/
def EdH (K : PySem.W.Frag) (te : TE) (Γ : Gam) (d : D) : Prop := ∀ (F0 H0 F H : Hp) (σ : L2.St), Ok K F0 H0 F H σ Γ → ∀ Q : VK, (∀ v F1 H1, Gr F H F1 H1 → Rp K (fr H F1) v d → Q v H1) → te σ H Q
def spXN (K : PySem.W.Frag) (S : List D → D → Prop) (T : List D → Addr → Prop) : Sp := fun vs H Q E => ∃ F ds, Same F H ∧ RpA K F vs ds ∧
  ((∃ d, S ds d ∧ ∀ v F' H', Gr F H F' H' → Rp K (fr H F') v d → Q v H') ∨ (∃ C, T ds C ∧ ∀ F' H', Gr F H F' H' → E (.ref C) none H'))
section
variable {K : PySem.W.Frag} {E : XK} {Γ : Gam} {d : D} {ds es : List D} {te ta : TE} {tas : TA} {S : List D → D → Prop} {T : List D → Addr → Prop} {C C' : Addr} {m : Str} {gs : List (Str × D)}
theorem EdH.n (h : EdH K te Γ d) : EdN K te Γ d := fun F0 H0 F H σ ok Q q => h F0 H0 F H σ ok Q fun v F1 H1 g r => q v F1 H1 g (r.mono (fr_weak ok.g.h))
theorem EdH.ed (h : EdH K te Γ d) : Ed K te Γ d := fun F0 H0 F H σ ok Q q => h F0 H0 F H σ ok Q fun v F1 H1 g r => q v F1 H1 g (r.mono (fr_sub _ _))
theorem edH_lf (h : Ed K te Γ d) (l : Lf K d) : EdH K te Γ d := fun F0 H0 F H σ ok Q q => h F0 H0 F H σ ok Q fun v F1 H1 g r => q v F1 H1 g (l F1 H v r)
theorem edH_meth {E' : XK} (ho : Ed K ta Γ (.ins C gs)) (hm : gs.lookup m = none) (h : Ea K tas Γ ds) (hs : S (.ins C gs :: ds) d) : EdH K (tMeth C m (spXN K S T) [] E' ta tas) Γ d := fun F0 H0 F H σ ok Q q => ho F0 H0 F H σ ok _ fun v F1 H1 g1 r1 => by
  cases r1 with
  | @ins a C dx fs gs e rf =>
    refine ⟨a, dx, fs, rfl, g1.s _ _ e, rf.lookNone hm, ?_⟩
    exact h F0 H0 F1 H1 σ (ok.grow g1) _ fun vs F2 H2 g2 r2 => ⟨F2, _, g2.s, .cons (.ins (g2.f _ _ e) (rf.mono g2.f)) (by rw [List.append_nil]; exact r2), .inl ⟨d, hs, fun v F3 H3 g3 r3 => q v F3 H3 (g1.trans (g2.trans g3)) (r3.mono (fr_weak (g1.trans g2).h))⟩⟩
theorem xd_methN (ho : Ed K ta Γ (.ins C gs)) (hm : gs.lookup m = none) (h : Ea K tas Γ ds) (hs : T (.ins C gs :: ds) C') : Xd K E (tMeth C m (spXN K S T) [] E ta tas) Γ C' := fun F0 H0 F H σ ok fin Q => ho F0 H0 F H σ ok _ fun v F1 H1 g1 r1 => by
  cases r1 with
  | @ins a C dx fs gs e rf =>
    refine ⟨a, dx, fs, rfl, g1.s _ _ e, rf.lookNone hm, ?_⟩
    exact h F0 H0 F1 H1 σ (ok.grow g1) _ fun vs F2 H2 g2 r2 => ⟨F2, _, g2.s, .cons (.ins (g2.f _ _ e) (rf.mono g2.f)) (by rw [List.append_nil]; exact r2), .inr ⟨C', hs, fun F3 H3 g3 => fin F3 H3 (g1.trans (g2.trans g3))⟩⟩
theorem sd_retH (h : EdH K te Γ d) : Sd K E (tRet te) Γ (.rn d) := sd_retF h.n
/-- two owned lists of leaves, handed back as a pair -/
theorem sd_retPairO (i j : Nat) (ne : i ≠ j) (hi : Γ[i]? = some (.ow ds)) (hj : Γ[j]? = some (.ow es)) (l1 : ∀ d ∈ ds, Lf K d) (l2 : ∀ d ∈ es, Lf K d) : Sd K E (tRet (tTup (tCons (tVar i) (tCons (tVar j) tNil)))) Γ (.rn (.tup [.lst ds, .lst es])) := fun F0 H0 F H σ De ok fin => by
  obtain ⟨p1, o1, a1, b1, c1, e1, r1, _⟩ := ok.ow i (.lst ds) hi
  obtain ⟨p2, o2, a2, b2, c2, e2, r2, _⟩ := ok.ow j (.lst es) hj
  cases r1 with
  | @lst v1 _ r1 =>
  cases r2 with
  | @lst v2 _ r2 =>
  have n12 : p2 ≠ p1 := fun z => ok.ap i j (.lst ds) (.lst es) p1 ne hi hj a1 (by rw [a2, z])
  refine ⟨.ref p1, a1, .ref p2, a2, by show 2 ≤ sizeLine; decide, fun p hp => ?_⟩
  have np1 : p1 ≠ p := ne_of_none b1 hp
  have np2 : p2 ≠ p := ne_of_none b2 hp
  have s1 : Same F (upd F p1 (.lst v1)) := same_upd c1
  have c2' : (upd F p1 (.lst v1)) p2 = none := by rw [upd_ne n12]; exact c2
  have s2 : Same (upd F p1 (.lst v1)) (upd (upd F p1 (.lst v1)) p2 (.lst v2)) := same_upd c2'
  have sF := s1.trans s2
  have sH : Same (upd (upd F p1 (.lst v1)) p2 (.lst v2)) H := fun a o e => by
    by_cases h2 : a = p2
    · subst h2; rw [upd_same] at e; rw [b2]; exact e
    · rw [upd_ne h2] at e
      by_cases h1 : a = p1
      · subst h1; rw [upd_same] at e; rw [b1]; exact e
      · rw [upd_ne h1] at e; exact ok.g.s a o e
  have g2 := Gr.new (o := .tup [.ref p1, .ref p2]) sH hp
  have Fq1 : (upd (upd (upd F p1 (.lst v1)) p2 (.lst v2)) p (.tup [V.ref p1, .ref p2])) p1 = some (.lst v1) := by
    rw [upd_ne np1, upd_ne (fun z => n12 z.symm), upd_same]
  have Fq2 : (upd (upd (upd F p1 (.lst v1)) p2 (.lst v2)) p (.tup [V.ref p1, .ref p2])) p2 = some (.lst v2) := by
    rw [upd_ne np2, upd_same]
  refine fin _ _ _ ⟨(ok.g.f.trans sF).trans g2.f, g2.s, ok.g.h.trans g2.h, fun a x y => ?_⟩ ?_
  · have ap : a ≠ p := fun z => y (by rw [z]; exact ok.g.h.free hp)
    have ap1 : a ≠ p1 := fun z => y (by rw [z]; exact e1)
    have ap2 : a ≠ p2 := fun z => y (by rw [z]; exact e2)
    rw [upd_ne ap, upd_ne ap2, upd_ne ap1]
    exact ok.g.n a x y
  · exact .tup (.inl (.inl (fr_oth upd_same fun _ z => nomatch z))) (.cons (.lst (fr_new e1 Fq1) (rpa_lf l1 (r1.mono (sF.trans g2.f)))) (.cons (.lst (fr_new e2 Fq2) (rpa_lf l2 (r2.mono (sF.trans g2.f)))) .nil))
end
section
variable {P : Program} {w : World} {K : PySem.W.Frag} {mg : Str → Option Value} {base : Heap} {m qual : Str} {st : Stmt} {C : Addr} {N ps : List Str} {k : Nat} {S : List D → D → Prop} {T : List D → Addr → Prop}
theorem cmXN (D : Dm K C m qual ps st) (sc : FnScope N ps (defScope st)) (len : ∀ ds d, S ds d → ds.length = ps.length) (len2 : ∀ ds C, T ds C → ds.length = ps.length)
    (body : ∀ (f : Addr) (cdv : Value) (A : Around) (outer : List Env) (s : Shared) (H : Hp) (E : XK), Room k (A.deeper (envOfC qual (defScope st) s.heap.objs.size f cdv)) →
      ∃ t, PSs (cxOf (L2.CX P w) P w K mg base N qual (defScope st) f cdv A outer s H E) (defBody st) t ∧ (∀ ds d, S ds d → Sd K E t (startG N ds) (.rn d)) ∧ (∀ ds C, T ds C → Sd K E t (startG N ds) (.ex C))) : Cm P w K mg base (L2.CX P w) (k + 1) C m (spXN K S T) := by
  obtain ⟨f, fd, M, F, b⟩ := D.ex
  refine ⟨f, fd, ps, M, F.okX sc (fun vs H Q E h => ?_) (fun cdv A outer s H vs Q E hr h => ?_), b⟩
  · obtain ⟨F', ds, e, r, ⟨d, hs, q⟩ | ⟨C, hs, q⟩⟩ := h
    · rw [r.len]; exact len ds d hs
    · rw [r.len]; exact len2 ds C hs
  · obtain ⟨F', ds, e, r, h⟩ := h
    obtain ⟨t, ht, hd, hx⟩ := body f cdv A outer s H E hr
    refine ⟨t, ht, ?_⟩
    rcases h with ⟨d, hs, q⟩ | ⟨C, hs, q⟩
    · exact hd ds d hs F' H F' H _ _ (ok_start e r) fun v F2 H2 g1 r1 => q v F2 H2 g1 r1
    · exact run_ex (hx ds C hs) e r q
end
/-! ### a method that changes its instance -/
def del (H : Hp) (x : Addr) : Hp := fun a => if a = x then none else H a
theorem del_same {H : Hp} {x : Addr} : del H x x = none := if_pos rfl
theorem del_ne {H : Hp} {x a : Addr} (h : a ≠ x) : del H x a = H a := if_neg h
theorem del_sub (H : Hp) (x : Addr) : Same (del H x) H := fun a o e => by
  by_cases h : a = x
  · subst h; rw [del_same] at e; cases e
  · rw [del_ne h] at e; exact e
/-- at its call: the instance at x is nobody's else, the row v may be a list that is not frozen -/
structure Ur (K : PySem.W.Frag) (F H : Hp) (x C : Addr) (gs : List (Str × D)) (v : V) (d : D) : Prop where
  s : Same F H
  nx : F x = none
  ix : ∃ dx fs, H x = some (.ins C dx fs) ∧ RpF K F fs gs
  row : ∃ Fr, Same F Fr ∧ Same Fr H ∧ (∀ a o, Fr a = some o → F a = some o ∨ ∃ xs, o = .lst xs) ∧ Rp K Fr v d
def Un (K : PySem.W.Frag) (F H : Hp) (x C : Addr) (d : D) (gs : List (Str × D)) (Q : VK) : Prop := ∀ u F' H' dx fs, Gr F (del H x) F' H' → F' x = none → H' x = some (.ins C dx fs) → RpF K F' fs gs → Rp K F' u d → Q u H'
def spU (K : PySem.W.Frag) (C : Addr) (S : List (Str × D) → D → D → List (Str × D) → Prop) (T : List D → Addr → Prop) : Sp := fun vs H Q E =>
  (∃ F x v gs dr d gs', vs = [.ref x, v] ∧ Ur K F H x C gs v dr ∧ S gs dr d gs' ∧ Un K F H x C d gs' Q) ∨
  (∃ F ds c, Same F H ∧ RpA K F vs ds ∧ T ds c ∧ ∀ F' H', Gr F H F' H' → E (.ref c) none H')
/-- the instance's fields end as gs -/
def SdU (K : PySem.W.Frag) (ts : TS) (x C : Addr) (Γ : Gam) (d : D) (gs : List (Str × D)) : Prop := ∀ (F0 H0 F H : Hp) (σ : L2.St) (De : Ends), Ok K F0 H0 F H σ Γ →
  (∀ v F1 H1 dx fs, Gr F0 H0 F1 H1 → F1 x = none → H1 x = some (.ins C dx fs) → RpF K F1 fs gs → Rp K F1 v d → De.rt v H1) → ts De σ H
section
variable {K : PySem.W.Frag} {E : XK} {Γ Γ1 : Gam} {gs : List (Str × D)} {d : D} {te : TE} {t : TT} {ts tu : TS} {x C : Addr}
theorem sdU_seq (h1 : Sd K E ts Γ (.nx Γ1)) (h2 : SdU K tu x C Γ1 d gs) : SdU K (tSeq ts tu) x C Γ d gs := fun F0 H0 F H σ De ok fin => h1 F0 H0 F H σ _ ok fun F1 H1 σ1 e1 ok1 => h2 F0 H0 F1 H1 σ1 De ok1 fin
theorem sdU_stop (h1 : SdU K ts x C Γ d gs) : SdU K (tSeq ts tu) x C Γ d gs := fun F0 H0 F H σ De ok fin => h1 F0 H0 F H σ _ ok fin
theorem sdU_ifT (h : Et K t Γ true) (h1 : SdU K ts x C Γ d gs) : SdU K (tIfS t ts tu) x C Γ d gs := fun F0 H0 F H σ De ok fin => h F0 H0 F H σ ok _ fun F1 H1 g1 => h1 F0 H0 F1 H1 σ De (ok.grow g1) fin
theorem sdU_ret (i : Nat) (hi : Γ[i]? = some (.ob (some x) C gs)) (h : Ed K te Γ d) : SdU K (tRet te) x C Γ d gs := fun F0 H0 F H σ De ok fin => h F0 H0 F H σ ok _ fun v F1 H1 g1 r1 => by
  have ok1 := ok.grow g1
  obtain ⟨p, ho, a, b, c, e, r, at_⟩ := ok1.ow i _ hi
  generalize ew : (Ow.ins (some x) C gs) = w at r at_
  cases r with
  | lst r => cases ew
  | @ins _ _ dx fs _ hf =>
    cases ew
    have hp : x = p := at_
    subst hp
    exact fin v F1 H1 dx fs ok1.g c b hf r1
theorem RpF.mono' {F F' : Hp} (e : Same F F') {vs : List (Str × V)} {ds : List (Str × D)} (h : RpF K F vs ds) : RpF K F' vs ds := RpF.mono e h
/-- what stands in F1 but not among what was frozen for a while -/
noncomputable def keepH (F Ft F1 : Hp) : Hp := fun a => @ite (Option HO) (F a = none ∧ Ft a ≠ none) (Classical.propDecidable _) none (F1 a)
theorem keepH_out {F Ft F1 : Hp} {a : Addr} (h : F a = none) (k : Ft a ≠ none) : keepH F Ft F1 a = none := by unfold keepH; rw [if_pos ⟨h, k⟩]
theorem keepH_in {F Ft F1 : Hp} {a : Addr} (h : ¬(F a = none ∧ Ft a ≠ none)) : keepH F Ft F1 a = F1 a := by unfold keepH; rw [if_neg h]
theorem keepH_sub (F Ft F1 : Hp) : Same (keepH F Ft F1) F1 := fun a o e => by
  by_cases h : F a = none ∧ Ft a ≠ none
  · rw [keepH_out h.1 h.2] at e; cases e
  · rw [keepH_in h] at e; exact e
/-- things frozen for a while, and what a call made meanwhile -/
theorem gr_keep {F Ft H F1 H1 : Hp} (e1 : Same F Ft) (g : Gr Ft H F1 H1) : Gr F H (keepH F Ft F1) H1 := by
  refine ⟨fun a o e => ?_, (keepH_sub F Ft F1).trans g.s, g.h, fun a h1 h2 => ?_⟩
  · rw [keepH_in fun z => by rw [z.1] at e; cases e]
    exact g.f a o (e1 a o e)
  · by_cases h : Ft a = none
    · rw [keepH_in fun z => z.2 h]
      exact g.n a h h2
    · exact keepH_out h1 h
theorem noIns_keep {F Ft H F1 H1 : Hp} (s : Same Ft H) (g : Gr Ft H F1 H1) (kd : ∀ a o, Ft a = some o → F a = some o ∨ (∃ xs, o = .lst xs) ∨ ∃ C dx fs, o = .ins C dx fs) : NoIns (fr H F1) (keepH F Ft F1) := fun a o e n => by
  have e1 := fr_sub H F1 a o e
  rw [keepH_in fun z => ?_]
  · exact e1
  · cases q : Ft a with
    | none => exact z.2 q
    | some u =>
      have f1 := g.f a u q
      rw [e1] at f1
      cases f1
      rcases kd a o q with y | ⟨xs, y⟩ | ⟨C, dx, fs, y⟩
      · rw [z.1] at y; cases y
      · subst y
        unfold fr at e
        rw [if_pos (And.intro (by rw [s a _ q]; exact fun z => nomatch z) ⟨xs, e1⟩)] at e
        cases e
      · exact n C dx fs y
/-- the first statement of such a method: a pair told by another method of the instance, by the row -/
theorem first_u {S : List D → D → Prop} {T : List D → Addr → Prop} {m : Str} {E' : XK} {i j : Nat} {N : List Str} {F H : Hp} {v : V} {dr d1 d2 : D} {n : Nat} {gs' : List (Str × D)} {De : Ends} (U : Ur K F H x C gs v dr) (hm : gs.lookup m = none) (hS : S [.ins C gs, dr] (.tup [d1, d2])) (pl : Pl n (.tup [d1, d2]))
    (hN : N.length = Γ.length + 2) (h0 : 2 ≤ i) (h1 : i < N.length) (h2 : 2 ≤ j) (h3 : j < N.length) (hΓ : Γ = List.replicate (N.length - 2) .no)
    (rest : SdU K tu x C (((.ob (some x) C gs :: .no :: Γ).set i (.fz d1)).set j (.fz d2)) d gs') (fin : ∀ u F' H' dx fs, Gr F (del H x) F' H' → F' x = none → H' x = some (.ins C dx fs) → RpF K F' fs gs' → Rp K F' u d → De.rt u H') :
    tSeq (tAsg (tMeth C m (spXN K S T) [] E' (tVar 0) (tCons (tVar 1) tNil)) (gTup K 2 (gCons (gName i) (gCons (gName j) gNil)))) tu De (L2.start N [.ref x, v]) H := by
  obtain ⟨dx, fs, hx, rf⟩ := U.ix
  obtain ⟨Fr, sr, srH, kd, rr⟩ := U.row
  have Frx : Fr x = none := by
    cases q : Fr x with
    | none => rfl
    | some o =>
      rcases kd x o q with y | ⟨xs, y⟩
      · rw [U.nx] at y; cases y
      · subst y
        have := srH x _ q
        rw [hx] at this; cases this
  let Ft := upd Fr x (.ins C dx fs)
  have s1 : Same Fr Ft := same_upd Frx
  have st : Same Ft H := fun a o e => by
    by_cases h : a = x
    · subst h
      have e' : some (HO.ins C dx fs) = some o := by rw [← e]; exact (upd_same (H := Fr)).symm
      rw [hx]; exact e'
    · rw [show Ft a = Fr a from upd_ne h] at e
      exact srH a o e
  have hv0 : (L2.start N [V.ref x, v])[0]? = some (some (.ref x)) := rfl
  have hv1 : (L2.start N [V.ref x, v])[1]? = some (some v) := rfl
  refine ⟨.ref x, hv0, x, dx, fs, rfl, hx, rf.lookNone hm, v, hv1, Ft, [.ins C gs, dr], st, .cons (.ins (show Ft x = _ from upd_same) (rf.mono (sr.trans s1))) (.cons (rr.mono s1) .nil), .inl ⟨_, hS, fun u F1 H1 g r => ?_⟩⟩
  have kd2 : ∀ a o, Ft a = some o → F a = some o ∨ (∃ xs, o = .lst xs) ∨ ∃ C dx fs, o = .ins C dx fs := fun a o e => by
    by_cases h : a = x
    · subst h
      have e' : some (HO.ins C dx fs) = some o := by rw [← e]; exact (upd_same (H := Fr)).symm
      cases e'
      exact .inr (.inr ⟨_, _, _, rfl⟩)
    · rw [show Ft a = Fr a from upd_ne h] at e
      rcases kd a o e with y | y
      · exact .inl y
      · exact .inr (.inl y)
  have gk := gr_keep (F := F) (sr.trans s1) g
  have rk := r.plain pl (noIns_keep st g kd2)
  generalize keepH F Ft F1 = F2 at gk rk
  have Fx2 : F2 x = none := gk.n x U.nx (by rw [hx]; exact fun z => nomatch z)
  have hx1 : H1 x = some (.ins C dx fs) := gk.h x _ hx
  have ok : Ok K F (del H x) F2 H1 (L2.start N [V.ref x, v]) (.ob (some x) C gs :: .no :: Γ) := by
    have noOw : ∀ (i : Nat) (es : Ow), (Sl.ob (some x) C gs :: .no :: Γ)[i]? = some (.own es) → i = 0 ∧ es = .ins (some x) C gs := fun i es h => by
      match i, h with
      | 0, h => cases h; exact ⟨rfl, rfl⟩
      | 1, h => cases h
      | i + 2, h =>
        rw [hΓ] at h
        simp only [List.getElem?_cons_succ, List.getElem?_replicate] at h
        split at h <;> cases h
    refine ⟨⟨gk.f, gk.s, (del_sub H x).trans gk.h, fun a h1 h2 => gk.n a h1 (some_ne (del_sub H x) h2)⟩, ?_, fun i e h => ?_, fun i es h => ?_, fun i j es gs' p hij h1 h2 => absurd ((noOw i es h1).1.trans (noOw j gs' h2).1.symm) hij⟩
    · unfold L2.start
      simp only [List.length_append, List.length_map, List.length_replicate, List.length_cons, List.length_nil]
      omega
    · match i, h with
      | 0, h => cases h
      | 1, h => cases h
      | i + 2, h =>
        rw [hΓ] at h
        simp only [List.getElem?_cons_succ, List.getElem?_replicate] at h
        split at h <;> cases h
    · obtain ⟨rfl, rfl⟩ := noOw i es h
      exact ⟨x, .ins C dx fs, rfl, hx1, Fx2, del_same, .ins (rf.mono gk.f), rfl⟩
  cases rk with
  | @tup a xs _ hs ra =>
    refine ⟨a, xs, rfl, sqt_mono gk.s hs, by rw [ra.len]; rfl, ?_⟩
    cases ra with
    | cons r1 rr2 =>
      cases rr2 with
      | cons r2 r3 =>
        cases r3
        refine ⟨_, _, rfl, _, _, rfl, rfl, ?_⟩
        exact rest F (del H x) F2 H1 _ De ((ok.set r1).set r2) fin
end
section
variable {P : Program} {w : World} {K : PySem.W.Frag} {mg : Str → Option Value} {base : Heap} {m qual : Str} {st : Stmt} {C : Addr} {N ps : List Str} {k : Nat} {S : List (Str × D) → D → D → List (Str × D) → Prop} {T : List D → Addr → Prop}
theorem cmU (D : Dm K C m qual ps st) (sc : FnScope N ps (defScope st)) (hl : ps.length = 2) (len2 : ∀ ds C, T ds C → ds.length = ps.length)
    (body : ∀ (f : Addr) (cdv : Value) (A : Around) (outer : List Env) (s : Shared) (H : Hp) (E : XK), Room k (A.deeper (envOfC qual (defScope st) s.heap.objs.size f cdv)) →
      ∃ t, PSs (cxOf (L2.CX P w) P w K mg base N qual (defScope st) f cdv A outer s H E) (defBody st) t ∧
        (∀ gs dr d gs', S gs dr d gs' → ∀ F H x v De, Ur K F H x C gs v dr → (∀ u F' H' dx fs, Gr F (del H x) F' H' → F' x = none → H' x = some (.ins C dx fs) → RpF K F' fs gs' → Rp K F' u d → De.rt u H') → t De (L2.start N [.ref x, v]) H) ∧
        (∀ ds C, T ds C → Sd K E t (startG N ds) (.ex C))) : Cm P w K mg base (L2.CX P w) (k + 1) C m (spU K C S T) := by
  obtain ⟨f, fd, M, F, b⟩ := D.ex
  refine ⟨f, fd, ps, M, F.okX sc (fun vs H Q E h => ?_) (fun cdv A outer s H vs Q E hr h => ?_), b⟩
  · rcases h with ⟨F', x, v, gs, dr, d, gs', rfl, _⟩ | ⟨F', ds, c, e, r, ht, _⟩
    · exact hl.symm
    · rw [r.len]; exact len2 ds c ht
  · obtain ⟨t, ht, hd, hx⟩ := body f cdv A outer s H E hr
    refine ⟨t, ht, ?_⟩
    rcases h with ⟨F', x, v, gs, dr, d, gs', rfl, U, hs, q⟩ | ⟨F', ds, c, e, r, hs, q⟩
    · exact hd gs dr d gs' hs F' H x v _ U q
    · exact run_ex (hx ds c hs) e r q
end
/-! ### expressions that change an owned instance -/
def EdC (K : PySem.W.Frag) (te : TE) (Γ : Gam) (d : D) (Γ' : Gam) : Prop := ∀ (F0 H0 F H : Hp) (σ : L2.St), Ok K F0 H0 F H σ Γ → ∀ Q : VK, (∀ v F1 H1, Same F F1 → Ok K F0 H0 F1 H1 σ Γ' → Rp K F1 v d → Q v H1) → te σ H Q
section
variable {K : PySem.W.Frag} {E : XK} {Γ Γ' : Gam} {d dr : D} {te tr : TE} {ts tu : TS} {C : Addr} {gs gs' : List (Str × D)} {m : Str} {S : List (Str × D) → D → D → List (Str × D) → Prop} {T : List D → Addr → Prop} {o : Oc} {b : Bool}
theorem edC_put {E' : XK} {q : Option Addr} (i : Nat) (hi : Γ[i]? = some (.ob q C gs)) (hm : gs.lookup m = none) (h : Ed K tr Γ dr) (hs : S gs dr d gs') : EdC K (tMeth C m (spU K C S T) [] E' (tVar i) (tCons tr tNil)) Γ d (Γ.set i (.ob q C gs')) := fun F0 H0 F H σ ok Q fin => by
  obtain ⟨x, ho, a, b, c, e, r, at_⟩ := ok.ow i _ hi
  generalize ew : (Ow.ins q C gs) = w at r at_
  cases r with
  | lst r => cases ew
  | @ins _ _ dx fs _ hf =>
  cases ew
  refine ⟨.ref x, a, x, dx, fs, rfl, b, hf.lookNone hm, ?_⟩
  refine h F0 H0 F H σ ok _ fun v F1 H1 g1 r1 => ?_
  have ok1 := ok.grow g1
  obtain ⟨c1, b1⟩ := g1.out c b
  refine .inl ⟨F1, x, v, gs, dr, d, gs', rfl, ⟨ok1.g.s, c1, ⟨dx, fs, b1, hf.mono g1.f⟩, F1, Same.refl F1, ok1.g.s, fun a o z => .inl z, r1⟩, hs, fun u F' H' dx' fs' g fx hx rf ru => ?_⟩
  have old : ∀ (j : Nat) (es : Ow) (p : Addr), j ≠ i → Γ[j]? = some (.own es) → σ[j]? = some (some (.ref p)) → p ≠ x := fun j es p hj h1 h2 z => by
    rw [z] at h2
    exact ok.ap i j (.ins q C gs) es x (fun y => hj y.symm) hi h1 a h2
  refine fin u F' H' (g1.f.trans g.f) ⟨⟨ok1.g.f.trans g.f, g.s, fun p o z => ?_, fun p h1 h2 => ?_⟩, by simpa using ok.len, fun j e' h' => ?_, fun j es h' => ?_, fun j k es fs p hjk h1 h2 h3 h4 => ?_⟩ ru
  · have px : p ≠ x := fun y => by rw [y, e] at z; cases z
    exact g.h p o (by rw [del_ne px]; exact ok1.g.h p o z)
  · have px : p ≠ x := fun y => h2 (by rw [y]; exact e)
    exact g.n p (ok1.g.n p h1 h2) (by rw [del_ne px]; exact some_ne ok1.g.h h2)
  · rcases set_get h' with ⟨rfl, z⟩ | ⟨n, z⟩
    · cases z
    · obtain ⟨w, h1, h2⟩ := ok1.fz j e' z
      exact ⟨w, h1, h2.mono g.f⟩
  · rcases set_get h' with ⟨rfl, z⟩ | ⟨n, z⟩
    · cases z
      exact ⟨x, _, a, hx, fx, e, .ins rf, by cases q with | none => trivial | some q => exact at_⟩
    · obtain ⟨p, hp, a', b', c', e', f', at'⟩ := ok1.ow j es z
      have px := old j es p (fun y => n y.symm) z a'
      exact ⟨p, hp, a', g.h p hp (by rw [del_ne px]; exact b'), g.n p c' (by rw [del_ne px, b']; exact fun y => nomatch y), e', f'.mono g.f, at'⟩
  · have back : ∀ {x : Nat} {zs : Ow}, (Γ.set i (.ob q C gs'))[x]? = some (.own zs) → ∃ ys, Γ[x]? = some (.own ys) := fun {x zs} h => by
      rcases set_get h with ⟨rfl, _⟩ | ⟨n, z⟩
      · exact ⟨_, hi⟩
      · exact ⟨zs, z⟩
    obtain ⟨y1, q1⟩ := back h1
    obtain ⟨y2, q2⟩ := back h2
    exact ok.ap j k y1 y2 p hjk q1 q2 h3 h4
theorem sd_ifC (h : EdC K te Γ (.bl b) Γ') (h1 : b = true → Sd K E ts Γ' o) (h2 : b = false → Sd K E tu Γ' o) : Sd K E (tIfS (tTest te) ts tu) Γ o := fun F0 H0 F H σ De ok fin => h F0 H0 F H σ ok _ fun v F1 H1 e1 ok1 r1 => by
  cases r1
  refine ⟨b, rfl, ?_⟩
  cases b with
  | true => exact h1 rfl F0 H0 F1 H1 σ De ok1 (fin.mono e1)
  | false => exact h2 rfl F0 H0 F1 H1 σ De ok1 (fin.mono e1)
end
/-! ### an instance made and owned -/
def spIO (K : PySem.W.Frag) (C : Addr) (S : List D → List (Str × D) → Prop) : Sp := fun vs H Q _ => ∃ F Hc x dx vs' ds gs, vs = .ref x :: vs' ∧ Same F Hc ∧ Hc x = none ∧ Hc dx = none ∧ dx ≠ x ∧ H = upd (upd Hc dx (.own x)) x (.ins C dx []) ∧ RpA K F vs' ds ∧ S ds gs ∧
  ∀ F' H' dy fs, Gr F Hc F' H' → F' x = none → H' x = some (.ins C dy fs) → RpF K F' fs gs → Q .non H'
section
variable {P : Program} {w : World} {K : PySem.W.Frag} {mg : Str → Option Value} {base : Heap} {x m qual : Str} {st : Stmt} {C : Addr} {N ps : List Str} {k : Nat} {S : List D → List (Str × D) → Prop}
theorem ciO (D : Di K C m qual ps st) (hm : mg x = some (.ref C)) (sc : FnScope N ps (defScope st)) (len : ∀ ds gs, S ds gs → ds.length + 1 = ps.length)
    (body : ∀ (f : Addr) (cdv : Value) (A : Around) (outer : List Env) (s : Shared) (H : Hp) (E : XK), Room k (A.deeper (envOfC qual (defScope st) s.heap.objs.size f cdv)) →
      ∃ t, PSs (cxOf CX0 P w K mg base N qual (defScope st) f cdv A outer s H E).nox (defBody st) t ∧ ∀ ds gs, S ds gs → ∀ x, ∃ Γ, Γ[0]? = some (.ob (some x) C gs) ∧ Sd K E0 t (startI N x C ds) (.nx Γ)) : Ci P w K mg base CX0 (k + 1) x C (spIO K C S) := by
  obtain ⟨f, fd, M, F, b⟩ := D.ex
  refine ⟨f, fd, ps, M, F.ok sc (fun vs H Q E h => ?_) (fun cdv A outer s H vs Q E hr h => ?_), hm, b⟩
  · obtain ⟨F', Hc, x, dx, vs', ds, gs, rfl, e, hx, hdx, ne, rfl, r, hs, q⟩ := h
    rw [List.length_cons, r.len]
    exact len ds gs hs
  · obtain ⟨F', Hc, x, dx, vs', ds, gs, rfl, e, hx, hdx, ne, rfl, r, hs, q⟩ := h
    obtain ⟨t, ht, hd⟩ := body f cdv A outer s _ E hr
    obtain ⟨Γ, h0, hsd⟩ := hd ds gs hs x
    refine ⟨t, ht, hsd F' Hc F' _ _ _ (ok_startI e hx hdx ne r) fun F1 H1 σ1 e1 ok1 => ?_⟩
    obtain ⟨p, ho, a, b1, c1, _, rr, at_⟩ := ok1.ow 0 _ h0
    generalize ew : (Ow.ins (some x) C gs) = w at rr at_
    cases rr with
    | lst r => cases ew
    | @ins _ _ dy fs _ hf =>
      cases ew
      have hp : x = p := at_
      subst hp
      exact q F1 H1 dy fs ok1.g c1 b1 hf
end
section
variable {K : PySem.W.Frag} {E : XK} {Γ : Gam} {ds : List D} {tas : TA} {C : Addr} {gs : List (Str × D)} {S : List D → List (Str × D) → Prop}
theorem sd_make {E' : XK} (i : Nat) (h : Ea K tas Γ ds) (hs : S ds gs) : Sd K E (tAsg (tMake C (spIO K C S) [] E' tas) (gName i)) Γ (.nx (Γ.set i (.ob none C gs))) := fun F0 H0 F H σ De ok fin => h F0 H0 F H σ ok _ fun vs F1 H1 g1 r1 => fun x dx hx hdx ne =>
  ⟨F1, H1, x, dx, vs, ds, gs, by rw [List.append_nil], g1.s, hx, hdx, ne, rfl, r1, hs, fun F2 H2 dy fs g2 f2 h2 rf => ⟨rfl, by
    have ok2 := (ok.grow g1).grow g2
    have h0 : H0 x = none := (ok.g.h.trans g1.h).free hx
    have old : ∀ (j : Nat) (es : Ow) (p : Addr), Γ[j]? = some (.own es) → σ[j]? = some (some (.ref p)) → p ≠ x := fun j es p h1 h2 z => by
      obtain ⟨p', hp, a', b', _⟩ := (ok.grow g1).ow j es h1
      rw [h2] at a'
      cases a'
      rw [z, hx] at b'
      cases b'
    refine fin F2 H2 _ (g1.f.trans g2.f) ⟨ok2.g, by simpa using ok.len, fun j e' h' => ?_, fun j es h' => ?_, fun j k es fs' p hjk h1 h2 h3 h4 => ?_⟩
    · rcases set_get h' with ⟨rfl, z⟩ | ⟨n, z⟩
      · cases z
      · rw [List.getElem?_set_ne n]; exact ok2.fz j e' z
    · rcases set_get h' with ⟨rfl, z⟩ | ⟨n, z⟩
      · cases z
        exact ⟨x, _, set_at ok.len h', h2, f2, h0, .ins rf, trivial⟩
      · rw [List.getElem?_set_ne n]; exact ok2.ow j es z
    · rcases set_get h1 with ⟨e1, x1⟩ | ⟨n1, q1⟩
      · subst e1
        rw [set_at ok.len h1] at h3
        cases h3
        rcases set_get h2 with ⟨e2, _⟩ | ⟨n2, q2⟩
        · exact hjk e2
        · rw [List.getElem?_set_ne n2] at h4
          exact old k fs' x q2 h4 rfl
      · rw [List.getElem?_set_ne n1] at h3
        rcases set_get h2 with ⟨e2, x2⟩ | ⟨n2, q2⟩
        · subst e2
          rw [set_at ok.len h2] at h4
          cases h4
          exact old j es x q1 h3 rfl
        · rw [List.getElem?_set_ne n2] at h4
          exact ok.ap j k es fs' p hjk q1 q2 h3 h4⟩⟩
end
/-! ### loops over what range maps to -/
theorem loopF_rm {K : PySem.W.Frag} {E : XK} {g : TG} {ts : TS} (m : Nat) (enc : Nat → D) (st : Nat → Gam) (h : ∀ i, i < m → ∃ js Γ1, Eg K g js (enc i) (st i) Γ1 ∧ Sd K E ts Γ1 (.lp (st (i + 1)))) : LoopF K E g ts ((List.range m).map enc) (st 0) (.nx (st m)) := by
  have z := loopF_ix (K := K) (E := E) (g := g) (ts := ts) (List.range m) enc st fun i hi => by
    rw [List.length_range] at hi
    obtain ⟨js, Γ1, a, b⟩ := h i hi
    exact ⟨js, Γ1, by rw [List.getElem_range]; exact a, b⟩
  rw [List.length_range] at z
  exact z
/-! ### a slot whose lists are new -/
def SdX (K : PySem.W.Frag) (E : XK) (ts : TS) (Γ : Gam) (j : Nat) (dj : D) (o : Oc) : Prop := ∀ (F0 H0 F H : Hp) (σ : L2.St) (De : Ends), Ok K F0 H0 F H σ Γ → (∃ v, σ[j]? = some (some v) ∧ Rp K (fr H0 F) v dj) → Fin K E De F0 H0 F o → ts De σ H
section
variable {K : PySem.W.Frag} {E : XK} {Γ : Gam} {d1 d2 dj : D} {te : TE} {t : TT} {ts tu : TS} {o : Oc} {i j : Nat}
theorem sdX_of (h : Sd K E ts Γ o) : SdX K E ts Γ j dj o := fun F0 H0 F H σ De ok _ fin => h F0 H0 F H σ De ok fin
theorem sdX_skip (h : Et K t Γ false) (h2 : SdX K E tu Γ j dj o) : SdX K E (tSeq (tIfS t ts tNext) tu) Γ j dj o := fun F0 H0 F H σ De ok hx fin => h F0 H0 F H σ ok _ fun F1 H1 g1 => h2 F0 H0 F1 H1 σ De (ok.grow g1) (by
    obtain ⟨v, a, r⟩ := hx
    exact ⟨v, a, r.mono (fr_mono g1.f)⟩) (fin.mono g1.f)
theorem sdX_ret : SdX K E (tRet (tVar j)) Γ j dj (.rn dj) := fun F0 H0 F H σ De ok hx fin => by
  obtain ⟨v, a, r⟩ := hx
  exact ⟨v, a, fin v F H ok.g r⟩
theorem sd_pairH (ne : i ≠ j) (hj : j < Γ.length) (h : EdH K te Γ (.tup [d1, d2])) (hr : SdX K E tu ((Γ.set i (.fz d1)).set j (.fz d2)) j d2 o) : Sd K E (tSeq (tAsg te (gTup K 2 (gCons (gName i) (gCons (gName j) gNil)))) tu) Γ o := fun F0 H0 F H σ De ok fin => h F0 H0 F H σ ok _ fun v F1 H1 g1 r1 => by
  have r2 := r1.mono (fr_weak (F := F1) ok.g.h)
  have ok1 := ok.grow g1
  cases r2 with
  | @tup a xs _ hs ra =>
    refine ⟨a, xs, rfl, sqt_mono ((fr_sub _ _).trans g1.s) hs, by rw [ra.len]; rfl, ?_⟩
    cases ra with
    | cons ra rb =>
      cases rb with
      | cons rb rc =>
        cases rc
        refine ⟨_, _, rfl, _, _, rfl, rfl, ?_⟩
        refine hr F0 H0 F1 H1 _ De ((ok1.set (ra.mono (fr_sub _ _))).set (rb.mono (fr_sub _ _))) ⟨_, List.getElem?_set_self (by rw [List.length_set, ok.len]; exact hj), rb⟩ (fin.mono g1.f)
end
end DL

namespace DL
open PySem PySem.Spec PyProof.Rows L2
/-! ### things that stand beside the slots and change -/
abbrev OmT := List (Addr × Ow)
def OmIn (Om : OmT) (a : Addr) : Prop := ∃ p ∈ Om, p.1 = a
structure OkM (K : PySem.W.Frag) (F0 H0 F H : Hp) (σ : L2.St) (Γ : Gam) (Om : OmT) : Prop where
  ex : ∃ Hb, Ok K F0 Hb F H σ Γ ∧ (∀ a o, H0 a = some o → ¬ OmIn Om a → Hb a = some o) ∧ ∀ p ∈ Om, F0 p.1 = none ∧ ∃ ho, Hb p.1 = some ho ∧ RpO K F ho p.2
  nd : (Om.map (·.1)).Nodup
structure GrM (K : PySem.W.Frag) (F0 H0 F H : Hp) (Om : OmT) : Prop where
  f : Same F0 F
  s : Same F H
  h : ∀ a o, H0 a = some o → ¬ OmIn Om a → H a = some o
  n : ∀ a, F0 a = none → H0 a ≠ none → F a = none
  o : ∀ p ∈ Om, F p.1 = none ∧ ∃ ho, H p.1 = some ho ∧ RpO K F ho p.2
section
variable {K : PySem.W.Frag} {F0 H0 F H F1 H1 : Hp} {σ : L2.St} {Γ Γ' : Gam} {Om : OmT}
theorem OkM.gr (ok : OkM K F0 H0 F H σ Γ Om) : GrM K F0 H0 F H Om := by
  obtain ⟨Hb, o, hb, ho⟩ := ok.ex
  refine ⟨o.g.f, o.g.s, fun a u e n => o.g.h a u (hb a u e n), fun a e n => ?_, fun p hp => ?_⟩
  · by_cases h : OmIn Om a
    · obtain ⟨p, hp, rfl⟩ := h
      obtain ⟨f0, h, e1, _⟩ := ho p hp
      exact o.g.n _ f0 (by rw [e1]; exact fun z => nomatch z)
    · cases q : H0 a with
      | none => exact absurd q n
      | some u => exact o.g.n a e (by rw [hb a u q h]; exact fun z => nomatch z)
  · obtain ⟨f0, h, e1, r⟩ := ho p hp
    exact ⟨o.g.n _ f0 (by rw [e1]; exact fun z => nomatch z), h, o.g.h _ _ e1, r⟩
theorem OkM.grow (ok : OkM K F0 H0 F H σ Γ Om) (g : Gr F H F1 H1) : OkM K F0 H0 F1 H1 σ Γ Om := by
  obtain ⟨Hb, o, hb, ho⟩ := ok.ex
  exact ⟨⟨Hb, o.grow g, hb, fun p hp => by
    obtain ⟨f0, h, e1, r⟩ := ho p hp
    exact ⟨f0, h, e1, r.mono g.f⟩⟩, ok.nd⟩
theorem OkM.le (ok : OkM K F0 H0 F H σ Γ Om) (l : Le Γ Γ') : OkM K F0 H0 F H σ Γ' Om := by
  obtain ⟨Hb, o, hb, ho⟩ := ok.ex
  exact ⟨⟨Hb, o.le l, hb, ho⟩, ok.nd⟩
theorem OkM.set (ok : OkM K F0 H0 F H σ Γ Om) {i : Nat} {v : V} {d : D} (r : Rp K F v d) : OkM K F0 H0 F H (σ.set i (some v)) (Γ.set i (.fz d)) Om := by
  obtain ⟨Hb, o, hb, ho⟩ := ok.ex
  exact ⟨⟨Hb, o.set r, hb, ho⟩, ok.nd⟩
end
/-! ### what they are looked at as -/
mutual
inductive UpD (Om : OmT) : D → D → Prop
  | refl (d : D) : UpD Om d d
  | adr {a : Addr} {ow : Ow} : (a, ow) ∈ Om → UpD Om (.adr a) ow.toD
  | dic {gs gs' : List (Str × D)} : UpF Om gs gs' → UpD Om (.dic gs) (.dic gs')
inductive UpF (Om : OmT) : List (Str × D) → List (Str × D) → Prop
  | nil : UpF Om [] []
  | cons {f : Str} {d d' : D} {r r' : List (Str × D)} : UpD Om d d' → UpF Om r r' → UpF Om ((f, d) :: r) ((f, d') :: r')
end
inductive UpS (Om : OmT) : Sl → Sl → Prop
  | same (s : Sl) : UpS Om s s
  | up {d d' : D} : UpD Om d d' → UpS Om (.fz d) (.fz d')
  | fz (ow : Ow) : UpS Om (.own ow) (.fz ow.toD)
inductive UpG (Om : OmT) : Gam → Gam → Prop
  | nil : UpG Om [] []
  | cons {s s' : Sl} {Γ Γ' : Gam} : UpS Om s s' → UpG Om Γ Γ' → UpG Om (s :: Γ) (s' :: Γ')
theorem UpG.refl {Om : OmT} : ∀ Γ : Gam, UpG Om Γ Γ
  | [] => .nil
  | s :: Γ => .cons (.same s) (UpG.refl Γ)
theorem UpG.len {Om : OmT} : ∀ {Γ Γ' : Gam}, UpG Om Γ Γ' → Γ.length = Γ'.length
  | _, _, .nil => rfl
  | _, _, .cons _ r => congrArg Nat.succ (UpG.len r)
theorem UpG.at {Om : OmT} : ∀ {Γ Γ' : Gam} {i : Nat} {s' : Sl}, UpG Om Γ Γ' → Γ'[i]? = some s' → ∃ s, Γ[i]? = some s ∧ UpS Om s s'
  | _, _, _, _, .nil, h => by simp at h
  | _, _, 0, _, .cons u r, h => by
    simp at h
    subst h
    exact ⟨_, rfl, u⟩
  | _, _, i + 1, _, .cons u r, h => by
    obtain ⟨s, a, b⟩ := UpG.at (i := i) r (by simpa using h)
    exact ⟨s, by simpa using a, b⟩
section
variable {K : PySem.W.Frag} {F Ft : Hp} {Om : OmT}
mutual
theorem UpD.rp (s : Same F Ft) (ho : ∀ p ∈ Om, ∃ h, Ft p.1 = some h ∧ RpO K Ft h p.2) : ∀ {d d' : D} {v : V}, UpD Om d d' → Rp K F v d → Rp K Ft v d'
  | _, _, _, .refl _, r => r.mono s
  | _, _, _, .adr hm, r => by
    cases r with
    | adr a =>
      obtain ⟨h, e, q⟩ := ho _ hm
      exact q.rp e
  | _, _, _, .dic u, r => by
    cases r with
    | dic e rf => exact .dic (s _ _ e) (UpF.rp s ho u rf)
theorem UpF.rp (s : Same F Ft) (ho : ∀ p ∈ Om, ∃ h, Ft p.1 = some h ∧ RpO K Ft h p.2) : ∀ {gs gs' : List (Str × D)} {fs : List (Str × V)}, UpF Om gs gs' → RpF K F fs gs → RpF K Ft fs gs'
  | _, _, _, .nil, r => by
    cases r
    exact .nil
  | _, _, _, .cons u us, r => by
    cases r with
    | cons a b => exact .cons (UpD.rp s ho u a) (UpF.rp s ho us b)
end
end
theorem ow_kd {K : PySem.W.Frag} {F : Hp} {h : HO} {o : Ow} (r : RpO K F h o) : (∃ xs, h = .lst xs) ∨ ∃ C dx fs, h = .ins C dx fs := by
  cases r with
  | lst r => exact .inl ⟨_, rfl⟩
  | ins r => exact .inr ⟨_, _, _, rfl⟩
theorem view {K : PySem.W.Frag} {F0 H0 F H : Hp} {σ : L2.St} {Γ Γ' : Gam} {Om : OmT} (ok : OkM K F0 H0 F H σ Γ Om) (u : UpG Om Γ Γ') :
    ∃ Ht Ft, Ok K F0 Ht Ft H σ Γ' ∧ Same F Ft ∧ ∀ a o, Ft a = some o → F a = some o ∨ (∃ xs, o = .lst xs) ∨ ∃ C dx fs, o = .ins C dx fs := by
  classical
  obtain ⟨Hb, o, hb, ho⟩ := ok.ex
  let P : Addr → Prop := fun a => OmIn Om a ∨ ∃ (i : Nat) (ow : Ow) (d' : D), Γ[i]? = some (Sl.own ow) ∧ Γ'[i]? = some (Sl.fz d') ∧ σ[i]? = some (some (V.ref a))
  have PF : ∀ a, P a → F a = none ∧ ∃ h w, H a = some h ∧ RpO K F h w := fun a ha => by
    rcases ha with ⟨p, hp, rfl⟩ | ⟨i, ow, d', h1, h2, h3⟩
    · obtain ⟨f0, h, e1, r⟩ := ho p hp
      exact ⟨o.g.n _ f0 (by rw [e1]; exact fun z => nomatch z), h, p.2, o.g.h _ _ e1, r⟩
    · obtain ⟨p, h, a1, b, c, d, r, _⟩ := o.ow i ow h1
      rw [h3] at a1
      cases a1
      exact ⟨c, h, ow, b, r⟩
  let Ft : Hp := fun a => if P a then H a else F a
  have Fin_ : ∀ a, P a → Ft a = H a := fun a h => if_pos h
  have Fout : ∀ a, ¬ P a → Ft a = F a := fun a h => if_neg h
  have sF : Same F Ft := fun a x e => by
    rw [Fout a fun z => by rw [(PF a z).1] at e; cases e]
    exact e
  have sH : Same Ft H := fun a x e => by
    by_cases h : P a
    · rw [Fin_ a h] at e; exact e
    · rw [Fout a h] at e; exact o.g.s a x e
  let Ht : Hp := fun a => if OmIn Om a then none else Hb a
  refine ⟨Ht, Ft, ⟨⟨o.g.f.trans sF, sH, fun a x e => ?_, fun a e n => ?_⟩, o.len.trans u.len, fun i d h => ?_, fun i w h => ?_, fun i j w1 w2 p hij h1 h2 => ?_⟩, sF, fun a x e => ?_⟩
  · by_cases h : OmIn Om a
    · rw [show Ht a = none from if_pos h] at e; cases e
    · rw [show Ht a = Hb a from if_neg h] at e; exact o.g.h a x e
  · have hn : ¬ OmIn Om a := fun h => n (if_pos h)
    rw [show Ht a = Hb a from if_neg hn] at n
    have np : ¬ P a := fun z => by
      rcases z with z | ⟨i, ow, d', h1, h2, h3⟩
      · exact hn z
      · obtain ⟨p, h, a1, b, c, d, r, _⟩ := o.ow i ow h1
        rw [h3] at a1
        cases a1
        exact n d
    rw [Fout a np]
    exact o.g.n a e n
  · obtain ⟨s, hs, us⟩ := u.at h
    cases us with
    | same =>
      obtain ⟨v, a, r⟩ := o.fz i d hs
      exact ⟨v, a, r.mono sF⟩
    | up ud =>
      obtain ⟨v, a, r⟩ := o.fz i _ hs
      refine ⟨v, a, ud.rp sF (fun p hp => ?_) r⟩
      obtain ⟨f0, h, e1, r⟩ := ho p hp
      exact ⟨h, by rw [Fin_ _ (.inl ⟨p, hp, rfl⟩)]; exact o.g.h _ _ e1, r.mono sF⟩
    | fz ow =>
      obtain ⟨p, hh, a, b, c, d, r, _⟩ := o.ow i ow hs
      refine ⟨.ref p, a, (r.mono sF).rp ?_⟩
      rw [Fin_ p (.inr ⟨i, ow, _, hs, h, a⟩)]
      exact b
  · obtain ⟨s, hs, us⟩ := u.at h
    cases us with
    | same =>
      obtain ⟨p, hh, a, b, c, d, r, at_⟩ := o.ow i w hs
      have nO : ¬ OmIn Om p := fun ⟨q, hq, e⟩ => by
        obtain ⟨f0, h, e1, r⟩ := ho q hq
        rw [e, d] at e1; cases e1
      have np : ¬ P p := fun z => by
        rcases z with z | ⟨j, ow, d', h1, h2, h3⟩
        · exact nO z
        · have hij : j ≠ i := fun e => by
            subst e
            rw [h] at h2; cases h2
          exact o.ap j i ow w p hij h1 hs h3 a
      exact ⟨p, hh, a, b, by rw [Fout p np]; exact c, (show Ht p = Hb p from if_neg nO).trans d, r.mono sF, at_⟩
  · obtain ⟨s1, hs1, u1⟩ := u.at h1
    obtain ⟨s2, hs2, u2⟩ := u.at h2
    cases u1 with
    | same =>
      cases u2 with
      | same => exact o.ap i j w1 w2 p hij hs1 hs2
  · by_cases h : P a
    · rw [Fin_ a h] at e
      obtain ⟨_, h', w, e2, r⟩ := PF a h
      rw [e] at e2
      cases e2
      exact .inr (ow_kd r)
    · rw [Fout a h] at e
      exact .inl e
/-! ### judgements -/
def EdE (K : PySem.W.Frag) (te : TE) (Γ : Gam) (Om : OmT) (R : D → OmT → Prop) : Prop := ∀ (F0 H0 F H : Hp) (σ : L2.St), OkM K F0 H0 F H σ Γ Om → ∀ Q : VK, (∀ v F1 H1 d Om', R d Om' → OkM K F0 H0 F1 H1 σ Γ Om' → Rp K F1 v d → Q v H1) → te σ H Q
def SdN (K : PySem.W.Frag) (ts : TS) (Γ : Gam) (Om : OmT) (R : Gam → OmT → Prop) : Prop := ∀ (F0 H0 F H : Hp) (σ : L2.St) (De : Ends), OkM K F0 H0 F H σ Γ Om → (∀ F1 H1 σ1 Γ' Om', R Γ' Om' → OkM K F0 H0 F1 H1 σ1 Γ' Om' → De.nx σ1 H1) → ts De σ H
def SdR (K : PySem.W.Frag) (ts : TS) (Γ : Gam) (Om : OmT) (R : D → OmT → Prop) : Prop := ∀ (F0 H0 F H : Hp) (σ : L2.St) (De : Ends), OkM K F0 H0 F H σ Γ Om → (∀ v F1 H1 d Om', R d Om' → GrM K F0 H0 F1 H1 Om' → Rp K F1 v d → De.rt v H1) → ts De σ H
section
variable {K : PySem.W.Frag} {E : XK} {Γ Γ' Γ1 : Gam} {Om Om1 : OmT} {te ta tb to tx : TE} {t : TT} {ts tu tv : TS} {d : D} {ds : List D} {R R1 : D → OmT → Prop} {RN : Gam → OmT → Prop} {tas : TA}
theorem edE_is (h : EdE K te Γ Om R1) (i : ∀ d Om', R1 d Om' → R d Om') : EdE K te Γ Om R := fun F0 H0 F H σ ok Q fin => h F0 H0 F H σ ok Q fun v F1 H1 d Om' hr => fin v F1 H1 d Om' (i d Om' hr)
theorem edE_ed (h : Ed K te Γ d) : EdE K te Γ Om fun d' Om' => d' = d ∧ Om' = Om := fun F0 H0 F H σ ok Q fin => by
  obtain ⟨Hb, o, hb, ho⟩ := ok.ex
  exact h F0 Hb F H σ o Q fun v F1 H1 g r => fin v F1 H1 d Om ⟨rfl, rfl⟩ (ok.grow g) r
theorem edE_view {n : Nat} (u : UpG Om Γ Γ') (h : EdH K te Γ' d) (pl : Pl n d) : EdE K te Γ Om fun d' Om' => d' = d ∧ Om' = Om := fun F0 H0 F H σ ok Q fin => by
  obtain ⟨Ht, Ft, okt, sF, kd⟩ := view ok u
  exact h F0 Ht Ft H σ okt Q fun v F1 H1 g r => fin v _ H1 d Om ⟨rfl, rfl⟩ (ok.grow (gr_keep sF g)) (r.plain pl (noIns_keep okt.g.s g kd))
theorem etM (u : UpG Om Γ Γ') {b : Bool} (h : Et K t Γ' b) {F0 H0 F H : Hp} {σ : L2.St} (ok : OkM K F0 H0 F H σ Γ Om) {Q : Bool → Hp → Prop} (fin : ∀ F1 H1, OkM K F0 H0 F1 H1 σ Γ Om → Q b H1) : t σ H Q := by
  obtain ⟨Ht, Ft, okt, sF, kd⟩ := view ok u
  exact h F0 Ht Ft H σ okt Q fun F1 H1 g => fin _ H1 (ok.grow (gr_keep sF g))
theorem edE_andT (h1 : EdE K ta Γ Om fun d' Om' => d' = .bl true ∧ Om' = Om) (h2 : EdE K tb Γ Om R) : EdE K (tAndV ta tb) Γ Om R := fun F0 H0 F H σ ok Q fin => h1 F0 H0 F H σ ok _ fun v F1 H1 d Om' hr ok1 r => by
  obtain ⟨rfl, rfl⟩ := hr
  cases r
  refine ⟨true, rfl, ?_⟩
  show tb σ H1 Q
  exact h2 F0 H0 F1 H1 σ ok1 Q fin
theorem sdN_is (h : SdN K ts Γ Om RN) {R' : Gam → OmT → Prop} (i : ∀ Γ' Om', RN Γ' Om' → R' Γ' Om') : SdN K ts Γ Om R' := fun F0 H0 F H σ De ok fin => h F0 H0 F H σ De ok fun F1 H1 σ1 Γ' Om' hr => fin F1 H1 σ1 Γ' Om' (i Γ' Om' hr)
theorem sdN_of (h : Sd K E ts Γ (.nx Γ')) : SdN K ts Γ Om fun Γ1 Om1 => Γ1 = Γ' ∧ Om1 = Om := fun F0 H0 F H σ De ok fin => by
  obtain ⟨Hb, o, hb, ho⟩ := ok.ex
  exact h F0 Hb F H σ De o fun F1 H1 σ1 e1 ok1 => fin F1 H1 σ1 Γ' Om ⟨rfl, rfl⟩ ⟨⟨Hb, ok1, hb, fun p hp => by
    obtain ⟨f0, h, e2, r⟩ := ho p hp
    exact ⟨f0, h, e2, r.mono e1⟩⟩, ok.nd⟩
theorem sdN_seq (h1 : SdN K ts Γ Om RN) {R' : Gam → OmT → Prop} (h2 : ∀ Γ' Om', RN Γ' Om' → SdN K tu Γ' Om' R') : SdN K (tSeq ts tu) Γ Om R' := fun F0 H0 F H σ De ok fin => h1 F0 H0 F H σ _ ok fun F1 H1 σ1 Γ' Om' hr ok1 => h2 Γ' Om' hr F0 H0 F1 H1 σ1 De ok1 fin
theorem sdR_seq (h1 : SdN K ts Γ Om RN) (h2 : ∀ Γ' Om', RN Γ' Om' → SdR K tu Γ' Om' R) : SdR K (tSeq ts tu) Γ Om R := fun F0 H0 F H σ De ok fin => h1 F0 H0 F H σ _ ok fun F1 H1 σ1 Γ' Om' hr ok1 => h2 Γ' Om' hr F0 H0 F1 H1 σ1 De ok1 fin
/-- a statement ahead that leaves all things beside as they are -/
theorem sdR_pre (h1 : Sd K E ts Γ (.nx Γ1)) (h2 : SdR K tu Γ1 Om R) : SdR K (tSeq ts tu) Γ Om R := sdR_seq (sdN_of h1) fun Γ' Om' hr => by
  obtain ⟨rfl, rfl⟩ := hr
  exact h2
theorem sdR_stop (h : SdR K ts Γ Om R) : SdR K (tSeq ts tu) Γ Om R := fun F0 H0 F H σ De ok fin => h F0 H0 F H σ _ ok fin
theorem sdR_ret (h : EdE K te Γ Om R) : SdR K (tRet te) Γ Om R := fun F0 H0 F H σ De ok fin => h F0 H0 F H σ ok _ fun v F1 H1 d Om' hr ok1 r => fin v F1 H1 d Om' hr ok1.gr r
theorem sdR_ifT (u : UpG Om Γ Γ') (h : Et K t Γ' true) (h1 : SdR K ts Γ Om R) : SdR K (tIfS t ts tu) Γ Om R := fun F0 H0 F H σ De ok fin => etM u h ok fun F1 H1 ok1 => h1 F0 H0 F1 H1 σ De ok1 fin
theorem sdN_if {b : Bool} (u : UpG Om Γ Γ') (h : Et K t Γ' b) (h1 : b = true → SdN K ts Γ Om RN) (h2 : b = false → SdN K tu Γ Om RN) : SdN K (tIfS t ts tu) Γ Om RN := fun F0 H0 F H σ De ok fin => etM u h ok fun F1 H1 ok1 => by
  cases b with
  | true => exact h1 rfl F0 H0 F1 H1 σ De ok1 fin
  | false => exact h2 rfl F0 H0 F1 H1 σ De ok1 fin
theorem sdN_next (h : RN Γ Om) : SdN K tNext Γ Om RN := fun F0 H0 F H σ De ok fin => fin F H σ Γ Om h ok
theorem sdN_skip (u : UpG Om Γ Γ') (h : Et K t Γ' false) : SdN K (tIfS t ts tNext) Γ Om fun Γ1 Om1 => Γ1 = Γ ∧ Om1 = Om := sdN_if u h (fun z => nomatch z) fun _ => sdN_next ⟨rfl, rfl⟩
theorem sdN_set (i : Nat) (h : EdE K te Γ Om R) : SdN K (tAsg te (gName i)) Γ Om fun Γ1 Om1 => ∃ d, R d Om1 ∧ Γ1 = Γ.set i (.fz d) := fun F0 H0 F H σ De ok fin => h F0 H0 F H σ ok _ fun v F1 H1 d Om' hr ok1 r => fin F1 H1 _ _ Om' ⟨d, hr, rfl⟩ (ok1.set r)
/-- if not e: .. , e true -/
theorem sdN_ifN (h : EdE K te Γ Om fun d' Om' => d' = .bl true ∧ RN Γ Om') : SdN K (tIfS (tNot (tTest te)) ts tNext) Γ Om RN := fun F0 H0 F H σ De ok fin => h F0 H0 F H σ ok _ fun v F1 H1 d Om' hr ok1 r => by
  obtain ⟨rfl, hr⟩ := hr
  cases r
  exact ⟨true, rfl, fin F1 H1 σ Γ Om' hr ok1⟩
def omSet (Om : OmT) (a : Addr) (o : Ow) : OmT := Om.map fun p => if p.1 = a then (a, o) else p
theorem omSet_keys (Om : OmT) (a : Addr) (o : Ow) : (omSet Om a o).map (·.1) = Om.map (·.1) := by
  unfold omSet
  rw [List.map_map]
  refine List.map_congr_left fun p _ => ?_
  show (if p.1 = a then (a, o) else p).1 = p.1
  split
  · rename_i h; exact h.symm
  · rfl
theorem omSet_mem {Om : OmT} {a : Addr} {o : Ow} {p : Addr × Ow} (h : p ∈ omSet Om a o) : (p = (a, o) ∧ OmIn Om a) ∨ (p ∈ Om ∧ p.1 ≠ a) := by
  obtain ⟨q, hq, e⟩ := List.mem_map.mp h
  by_cases ha : q.1 = a
  · rw [if_pos ha] at e
    exact .inl ⟨e.symm, q, hq, ha⟩
  · rw [if_neg ha] at e
    subst e
    exact .inr ⟨hq, ha⟩
theorem omSet_in {Om : OmT} {a b : Addr} {o : Ow} : OmIn (omSet Om a o) b ↔ OmIn Om b := by
  have k := omSet_keys Om a o
  have f : ∀ (L : OmT), OmIn L b ↔ b ∈ L.map (·.1) := fun L => ⟨fun ⟨p, hp, e⟩ => List.mem_map.mpr ⟨p, hp, e⟩, fun h => by
    obtain ⟨p, hp, e⟩ := List.mem_map.mp h
    exact ⟨p, hp, e⟩⟩
  rw [f, f, k]
/-- one of them changes -/
theorem OkM.up {F0 H0 F H F1 H1 : Hp} {σ : L2.St} (ok : OkM K F0 H0 F H σ Γ Om) {a : Addr} {o o' : Ow} {h' : HO} (hm : (a, o) ∈ Om) (e : Same F F1) (s : Same F1 H1) (hh : ∀ b u, b ≠ a → H b = some u → H1 b = some u) (hn : ∀ b, F b = none → H b ≠ none → F1 b = none) (ha : H1 a = some h') (r : RpO K F1 h' o') : OkM K F0 H0 F1 H1 σ Γ (omSet Om a o') := by
  obtain ⟨Hb, ok0, hb, ho⟩ := ok.ex
  obtain ⟨f0, h0, e0, r0⟩ := ho _ hm
  have Fa : F a = none := ok0.g.n _ f0 (by rw [e0]; exact fun z => nomatch z)
  have Ha : H a = some h0 := ok0.g.h _ _ e0
  refine ⟨⟨upd Hb a h', ⟨⟨ok0.g.f.trans e, s, fun b u q => ?_, fun b q1 q2 => ?_⟩, ok0.len, fun i d h => ?_, fun i w h => ?_, ok0.ap⟩, fun b u q n => ?_, fun p hp => ?_⟩, by rw [omSet_keys]; exact ok.nd⟩
  · by_cases hb' : b = a
    · subst hb'; rw [upd_same] at q; rw [ha]; exact q
    · rw [upd_ne hb'] at q; exact hh b u hb' (ok0.g.h b u q)
  · by_cases hb' : b = a
    · subst hb'; exact hn _ Fa (by rw [Ha]; exact fun z => nomatch z)
    · rw [upd_ne hb'] at q2
      exact hn b (ok0.g.n b q1 q2) (some_ne ok0.g.h q2)
  · obtain ⟨v, x, y⟩ := ok0.fz i d h
    exact ⟨v, x, y.mono e⟩
  · obtain ⟨p, hp, x, b, c, d, r, at_⟩ := ok0.ow i w h
    have pa : p ≠ a := fun z => by rw [z, e0] at d; cases d
    exact ⟨p, hp, x, hh p hp pa b, hn p c (by rw [b]; exact fun z => nomatch z), by rw [upd_ne pa]; exact d, r.mono e, at_⟩
  · have nb : ¬ OmIn Om b := fun z => n (omSet_in.mpr z)
    have ba : b ≠ a := fun z => nb ⟨_, hm, z.symm⟩
    rw [upd_ne ba]
    exact hb b u q nb
  · rcases omSet_mem hp with ⟨rfl, _⟩ | ⟨hp, na⟩
    · exact ⟨f0, h', upd_same, r⟩
    · obtain ⟨f1, h1, e1, r1⟩ := ho p hp
      exact ⟨f1, h1, by rw [upd_ne na]; exact e1, r1.mono e⟩
/-- x.append(e), x one of them -/
theorem sdN_app {a : Addr} (ho : Ed K to Γ (.adr a)) (hm : (a, Ow.lst ds) ∈ Om) (h : Ed K tx Γ d) (hl : ds.length < 100000) : SdN K (tDrop (tBM K "list" rAppend to (tCons tx tNil))) Γ Om fun Γ1 Om1 => Γ1 = Γ ∧ Om1 = omSet Om a (.lst (ds ++ [d])) := fun F0 H0 F H σ De ok fin => by
  obtain ⟨Hb, ok0, hb, hho⟩ := ok.ex
  refine ho F0 Hb F H σ ok0 _ fun v F1 H1 g1 r1 => ?_
  have ok1 := ok.grow g1
  obtain ⟨_, w, e1, r⟩ := ok1.gr.o _ hm
  generalize ew : (Ow.lst ds) = ww at r
  cases r1
  cases r with
  | ins r => cases ew
  | @lst vs _ r =>
  cases ew
  refine ⟨tyV_list e1, ?_⟩
  refine h F0 Hb F1 H1 σ (ok0.grow g1) _ fun v F2 H2 g2 r2 => ?_
  have ok2 := ok1.grow g2
  have e2 := g2.h _ _ e1
  refine ⟨a, vs, v, rfl, rfl, e2, Nat.lt_of_lt_of_le (by rw [r.len]; exact hl) (by decide), ?_⟩
  have fa := (ok2.gr.o _ hm).1
  refine fin F2 _ σ Γ _ ⟨rfl, rfl⟩ (ok2.up hm (Same.refl F2) (fun b u q => ?_) (fun b u q1 q2 => by rw [upd_ne q1]; exact q2) (fun b q _ => q) upd_same (.lst ((r.mono g2.f).append (.one r2))))
  have ba : b ≠ a := fun z => by rw [z, fa] at q; cases q
  rw [upd_ne ba]
  exact ok2.gr.s b u q
/-- x.put(row), x one of them, the row an owned list -/
theorem edE_put {C s : Addr} {m : Str} {S : List (Str × D) → D → D → List (Str × D) → Prop} {T : List D → Addr → Prop} {E' : XK} {i j : Nat} {q : Option Addr} {gs gs' : List (Str × D)} (hi : Γ[i]? = some (.fz (.adr s))) (hm : (s, Ow.ins q C gs) ∈ Om) (hj : Γ[j]? = some (.ow ds)) (hf : gs.lookup m = none) (hs : S gs (.lst ds) d gs') : EdE K (tMeth C m (spU K C S T) [] E' (tVar i) (tCons (tVar j) tNil)) Γ Om fun d1 Om1 => d1 = d ∧ Om1 = omSet Om s (.ins q C gs') := fun F0 H0 F H σ ok Q fin => by
  obtain ⟨Hb, ok0, hb, hho⟩ := ok.ex
  obtain ⟨v, a, rv⟩ := ok0.fz i _ hi
  cases rv
  obtain ⟨fs0, w, e1, r⟩ := ok.gr.o _ hm
  generalize ew : (Ow.ins q C gs) = ww at r
  cases r with
  | lst r => cases ew
  | @ins _ _ dx fs _ rf =>
  cases ew
  refine ⟨.ref s, a, s, dx, fs, rfl, e1, rf.lookNone hf, ?_⟩
  obtain ⟨p, hp, a2, b2, c2, d2, r2, _⟩ := ok0.ow j _ hj
  cases r2 with
  | @lst vs _ r2 =>
  refine ⟨.ref p, a2, ?_⟩
  have sr : Same F (upd F p (.lst vs)) := same_upd c2
  refine .inl ⟨F, s, .ref p, gs, .lst ds, d, gs', rfl, ⟨ok0.g.s, fs0, ⟨dx, fs, e1, rf⟩, upd F p (.lst vs), sr, fun b o z => ?_, fun b o z => ?_, .lst upd_same (r2.mono sr)⟩, hs, fun u F' H' dx' fs' g fx hx rf' ru => ?_⟩
  · by_cases hb' : b = p
    · subst hb'; rw [upd_same] at z; rw [b2]; exact z
    · rw [upd_ne hb'] at z; exact ok0.g.s b o z
  · by_cases hb' : b = p
    · subst hb'; rw [upd_same] at z; cases z; exact .inr ⟨_, rfl⟩
    · rw [upd_ne hb'] at z; exact .inl z
  · exact fin u F' H' d _ ⟨rfl, rfl⟩ (ok.up hm g.f g.s (fun b o z1 z2 => g.h b o (by rw [del_ne z1]; exact z2)) (fun b z1 z2 => by
      by_cases hb' : b = s
      · subst hb'; exact fx
      · exact g.n b z1 (by rw [del_ne hb']; exact z2)) hx (.ins rf')) ru
end
/-! ### defs that change things beside -/
def spM (K : PySem.W.Frag) {ι : Type} (Pre : ι → List D → OmT → Prop) (Post : ι → D → OmT → Prop) : Sp := fun vs H Q _ => ∃ F ds Om i, Same F H ∧ RpA K F vs ds ∧ (Om.map (·.1)).Nodup ∧ (∀ p ∈ Om, F p.1 = none ∧ ∃ ho, H p.1 = some ho ∧ RpO K F ho p.2) ∧ Pre i ds Om ∧
  ∀ v F' H' d Om', Post i d Om' → GrM K F H F' H' Om' → Rp K F' v d → Q v H'
section
variable {K : PySem.W.Frag} {F H : Hp} {vs : List V} {ds : List D} {Om : OmT} {N : List Str}
theorem okM_start (e : Same F H) (r : RpA K F vs ds) (nd : (Om.map (·.1)).Nodup) (ho : ∀ p ∈ Om, F p.1 = none ∧ ∃ ho, H p.1 = some ho ∧ RpO K F ho p.2) : OkM K F H F H (L2.start N vs) (startG N ds) Om := ⟨⟨H, ok_start e r, fun _ _ h _ => h, ho⟩, nd⟩
end
section
variable {P : Program} {w : World} {K : PySem.W.Frag} {mg : Str → Option Value} {base : Heap} {x : Str} {st : Stmt} {N ps : List Str} {k : Nat} {ι : Type} {Pre : ι → List D → OmT → Prop} {Post : ι → D → OmT → Prop}
theorem clM (D : Df K mg x ps st) (sc : FnScope N ps (defScope st)) (len : ∀ i ds Om, Pre i ds Om → ds.length = ps.length)
    (body : ∀ (f : Addr) (cdv : Value) (A : Around) (outer : List Env) (s : Shared) (H : Hp) (E : XK), Room k (A.deeper (envOfC x (defScope st) s.heap.objs.size f cdv)) →
      ∃ t, PSs (cxOf CX0 P w K mg base N x (defScope st) f cdv A outer s H E).nox (defBody st) t ∧ ∀ i ds Om, Pre i ds Om → SdR K t (startG N ds) Om (Post i)) : Cl P w K mg base CX0 (k + 1) x (spM K Pre Post) := by
  obtain ⟨f, fd, F, hm, b⟩ := D.ex
  refine ⟨f, fd, ps, F.ok sc (fun vs H Q E h => ?_) (fun cdv A outer s H vs Q E hr h => ?_), hm, F.kp, b⟩
  · obtain ⟨F', ds, Om, i, e, r, nd, ho, pre, q⟩ := h
    rw [r.len]
    exact len i ds Om pre
  · obtain ⟨F', ds, Om, i, e, r, nd, ho, pre, q⟩ := h
    obtain ⟨t, ht, hd⟩ := body f cdv A outer s H E hr
    exact ⟨t, ht, hd i ds Om pre F' H F' H _ _ (okM_start e r nd ho) q⟩
end
section
variable {K : PySem.W.Frag} {Γ : Gam} {Om : OmT} {te : TE} {tas : TA} {d : D} {ds : List D} {ι : Type} {Pre : ι → List D → OmT → Prop} {Post : ι → D → OmT → Prop} {E' : XK}
/-- a call in which the things beside are all that the callee may change -/
theorem OkM.after {F0 H0 F H F1 H1 : Hp} {σ : L2.St} {Om' : OmT} (ok : OkM K F0 H0 F H σ Γ Om) (g : GrM K F H F1 H1 Om') (hk : Om'.map (·.1) = Om.map (·.1)) : OkM K F0 H0 F1 H1 σ Γ Om' := by
  classical
  obtain ⟨Hb, o, hb, ho⟩ := ok.ex
  have same : ∀ a, OmIn Om' a ↔ OmIn Om a := fun a => by
    have f : ∀ (L : OmT), OmIn L a ↔ a ∈ L.map (·.1) := fun L => ⟨fun ⟨p, hp, e⟩ => List.mem_map.mpr ⟨p, hp, e⟩, fun h => by
      obtain ⟨p, hp, e⟩ := List.mem_map.mp h
      exact ⟨p, hp, e⟩⟩
    rw [f, f, hk]
  let Hc : Hp := fun a => if OmIn Om a then H1 a else Hb a
  have cin : ∀ a, OmIn Om a → Hc a = H1 a := fun a h => if_pos h
  have cout : ∀ a, ¬ OmIn Om a → Hc a = Hb a := fun a h => if_neg h
  have Hom : ∀ a, OmIn Om a → Hb a ≠ none ∧ F0 a = none := fun a ⟨p, hp, e⟩ => by
    obtain ⟨f0, h, e1, r⟩ := ho p hp
    subst e
    exact ⟨(by rw [e1]; exact fun z => (nomatch z)), f0⟩
  refine ⟨⟨Hc, ⟨⟨o.g.f.trans g.f, g.s, fun a u e => ?_, fun a e n => ?_⟩, o.len, fun i d h => ?_, fun i w h => ?_, o.ap⟩, fun a u e n => ?_, fun p hp => ?_⟩, by rw [hk]; exact ok.nd⟩
  · by_cases h : OmIn Om a
    · rw [cin a h] at e; exact e
    · rw [cout a h] at e; exact g.h a u (o.g.h a u e) fun z => h ((same a).mp z)
  · by_cases h : OmIn Om a
    · obtain ⟨h1, h2⟩ := Hom a h
      exact g.n a (o.g.n a h2 h1) (some_ne o.g.h h1)
    · rw [cout a h] at n
      exact g.n a (o.g.n a e n) (some_ne o.g.h n)
  · obtain ⟨v, x, y⟩ := o.fz i d h
    exact ⟨v, x, y.mono g.f⟩
  · obtain ⟨p, hp, x, b, c, d, r, at_⟩ := o.ow i w h
    have np : ¬ OmIn Om p := fun z => (Hom p z).1 d
    exact ⟨p, hp, x, g.h p hp b fun z => np ((same p).mp z), g.n p c (by rw [b]; exact fun z => nomatch z), by rw [cout p np]; exact d, r.mono g.f, at_⟩
  · have n' : ¬ OmIn Om a := fun z => n ((same a).mpr z)
    rw [cout a n']
    exact hb a u e n'
  · obtain ⟨f1, h1, e1, r1⟩ := g.o p hp
    have hin : OmIn Om p.1 := (same _).mp ⟨p, hp, rfl⟩
    exact ⟨(Hom _ hin).2, h1, by rw [cin _ hin]; exact e1, r1⟩
theorem edE_call (h1 : EdE K te Γ Om fun d' Om' => d' = d ∧ Om' = Om) (h2 : Ea K tas Γ ds) (i : ι) (pre : Pre i (d :: ds) Om) (hk : ∀ d' Om', Post i d' Om' → Om'.map (·.1) = Om.map (·.1)) : EdE K (tCall (spM K Pre Post) [] E' (tCons te tas)) Γ Om (Post i) := fun F0 H0 F H σ ok Q fin => h1 F0 H0 F H σ ok _ fun v F1 H1 d' Om' hr ok1 r1 => by
  obtain ⟨rfl, rfl⟩ := hr
  obtain ⟨Hb, o, hb, ho⟩ := ok1.ex
  refine h2 F0 Hb F1 H1 σ o _ fun vs F2 H2 g2 r2 => ?_
  have ok2 := ok1.grow g2
  refine ⟨F2, _, Om', i, ok2.gr.s, by rw [List.append_nil]; exact .cons (r1.mono g2.f) r2, ok2.nd, ok2.gr.o, pre, fun u F3 H3 d Om3 post g3 r3 => fin u F3 H3 d Om3 post (ok2.after g3 (hk d Om3 post)) r3⟩
theorem lf_int (i : Int) : Lf K (.int i) := fun F Hs v r => by cases r; exact .int i
theorem lf_bl (i : Bool) : Lf K (.bl i) := fun F Hs v r => by cases r; exact .bl i
end
end DL

namespace DL
open PySem PySem.Spec PyProof.Rows L2
/-! ### methods within a try -/
def tMethSt (C : Addr) (m : Str) (sp : Sp) (E : L2.St → XK) (ta : TE) (t : TA) : TE := fun σ H Q => ta σ H fun x H1 => ∃ a dx fs, x = .ref a ∧ H1 a = some (.ins C dx fs) ∧ fs.lookup m = none ∧ t σ H1 fun vs H2 => sp (x :: vs) H2 Q (E σ)
section
variable {X : Cx} {k j : Nat} {m : Str} {C : Addr} {sp : Sp} {p pos apos : Pos} {o e : Expr} {es : List Expr} {ta : TE} {t : TA}
theorem pcmS {pl : Sem Bool} {E : L2.St → XK} (c : Cm X.prog X.w X.K X.mg X.base (L2.CX X.prog X.w) k C m sp) (cl : Cls X.K C) (hr : Room j X.A) (hk : k ≤ j) (hx : ∀ σ, PassesAt (L2.CX X.prog X.w) X σ (E σ)) (he : PE X o ta) (ha : PA X (e :: es) t)
    (hst : starEach (e :: es) X.env = (false, eval e X.env) :: starEach es X.env := by rfl) (hpl : (backTo pos (starEach es X.env)).any (·.1) = false := by rfl)
    (ht : eval (.Call (.Attribute o m apos) (e :: es) [] pos) X.env = (do
      let ov ← eval o X.env
      standAt apos.atName
      let (f, first) ← holding [ov] (getMethod ov m pl)
      callWith pos f first (backTo pos (starEach (e :: es) X.env)) (backToKw pos (keywordEach [] X.env))) := by rfl) :
    PE X (.Call (.Attribute o m apos) (e :: es) [] pos) (tMethSt C m sp E ta t) := by
  obtain ⟨f, fd, ps, M, F, b⟩ := c.ex
  refine ⟨fun pins s σ H Q I h => ?_⟩
  refine PySem.W.methodCall_KW (pl := pl) (thn (he.run pins s σ H _ I h) fun u s1 ⟨x, H1, I1, rx, a, dx, fs, ex, ea, l, q⟩ => ?_) ht
  subst ex
  obtain rfl : u = Value.ref a := rx
  refine getmeth_ok I1 ea cl M l ?_
  refine PySem.W.callWith_K (first := [.ref a]) (h₀ := X.base) I.ok.mod.kin M.kp (thn (ha.run pos pins s1 σ H1 _ I1 q) fun us s2 ⟨vs, H2, I2, r, q2⟩ => ⟨I2.kIn, ?_⟩) hst hpl
  exact run_fnS (us := .ref a :: us) (vs := .ref a :: vs) F (hr.mono hk) b (hx σ) I2 (.cons rfl r) q2
end
section
variable {K : PySem.W.Frag} {E : XK} {W : WX} {Γ : Gam} {d : D} {ds : List D} {ta tb te : TE} {t : TT} {ts : TS} {tas : TA} {S : List D → D → Prop} {SU : List (Str × D) → D → D → List (Str × D) → Prop} {T : List D → Addr → Prop} {C C' : Addr} {m : Str} {gs : List (Str × D)}
theorem edH_methS {E' : L2.St → XK} (ho : Ed K ta Γ (.ins C gs)) (hm : gs.lookup m = none) (h : Ea K tas Γ ds) (hs : S (.ins C gs :: ds) d) : EdH K (tMethSt C m (spXN K S T) E' ta tas) Γ d := fun F0 H0 F H σ ok Q q => ho F0 H0 F H σ ok _ fun v F1 H1 g1 r1 => by
  cases r1 with
  | @ins a C dx fs gs e rf =>
    refine ⟨a, dx, fs, rfl, g1.s _ _ e, rf.lookNone hm, ?_⟩
    exact h F0 H0 F1 H1 σ (ok.grow g1) _ fun vs F2 H2 g2 r2 => ⟨F2, _, g2.s, .cons (.ins (g2.f _ _ e) (rf.mono g2.f)) r2, .inl ⟨d, hs, fun v F3 H3 g3 r3 => q v F3 H3 (g1.trans (g2.trans g3)) (r3.mono (fr_weak (g1.trans g2).h))⟩⟩
theorem xw_methS (ho : Ed K ta Γ (.ins C gs)) (hm : gs.lookup m = none) (h : Ea K tas Γ ds) (hs : T (.ins C gs :: ds) C') : XdW K W (tMethSt C m (spXN K S T) (WE W) ta tas) Γ C' := fun F0 H0 F H σ ok fin Q => ho F0 H0 F H σ ok _ fun v F1 H1 g1 r1 => by
  cases r1 with
  | @ins a C dx fs gs e rf =>
    refine ⟨a, dx, fs, rfl, g1.s _ _ e, rf.lookNone hm, ?_⟩
    exact h F0 H0 F1 H1 σ (ok.grow g1) _ fun vs F2 H2 g2 r2 => ⟨F2, _, g2.s, .cons (.ins (g2.f _ _ e) (rf.mono g2.f)) r2, .inr ⟨C', hs, fun F3 H3 g3 => fin F3 H3 (((ok.grow g1).grow g2).grow g3)⟩⟩
theorem xw_methU (ho : Ed K ta Γ (.ins C gs)) (hm : gs.lookup m = none) (h : Ea K tas Γ ds) (hs : T (.ins C gs :: ds) C') : XdW K W (tMethSt C m (spU K C SU T) (WE W) ta tas) Γ C' := fun F0 H0 F H σ ok fin Q => ho F0 H0 F H σ ok _ fun v F1 H1 g1 r1 => by
  cases r1 with
  | @ins a C dx fs gs e rf =>
    refine ⟨a, dx, fs, rfl, g1.s _ _ e, rf.lookNone hm, ?_⟩
    exact h F0 H0 F1 H1 σ (ok.grow g1) _ fun vs F2 H2 g2 r2 => .inr ⟨F2, _, C', g2.s, .cons (.ins (g2.f _ _ e) (rf.mono g2.f)) r2, hs, fun F3 H3 g3 => fin F3 H3 (((ok.grow g1).grow g2).grow g3)⟩
theorem xw_ifE {b : Bool} (h : Et K t Γ b) (h1 : b = true → XdW K W ta Γ C) (h2 : b = false → XdW K W tb Γ C) : XdW K W (tIf t ta tb) Γ C := fun F0 H0 F H σ ok fin Q => h F0 H0 F H σ ok _ fun F1 H1 g1 => by
  cases b with
  | true => exact h1 rfl F0 H0 F1 H1 σ (ok.grow g1) fin Q
  | false => exact h2 rfl F0 H0 F1 H1 σ (ok.grow g1) fin Q
theorem edH_if {b : Bool} (h : Et K t Γ b) (h1 : b = true → EdH K ta Γ d) (h2 : b = false → EdH K tb Γ d) : EdH K (tIf t ta tb) Γ d := fun F0 H0 F H σ o Q q => h F0 H0 F H σ o _ fun F1 H1 g1 => by
  cases b with
  | true =>
    show ta σ H1 Q
    exact h1 rfl F0 H0 F1 H1 σ (o.grow g1) Q fun v F2 H2 g2 r2 => q v F2 H2 (g1.trans g2) (r2.mono (fr_weak g1.h))
  | false =>
    show tb σ H1 Q
    exact h2 rfl F0 H0 F1 H1 σ (o.grow g1) Q fun v F2 H2 g2 r2 => q v F2 H2 (g1.trans g2) (r2.mono (fr_weak g1.h))
theorem sd_rnOf (h : Sd K E ts Γ (.rt d)) (l : Lf K d) : Sd K E ts Γ (.rn d) := fun F0 H0 F H σ De ok fin => h F0 H0 F H σ De ok fun v F1 H1 g r => fin v F1 H1 g (l F1 H0 v r)
theorem lf_strs2 (a b : Str) : Lf K (.tup [.str a, .str b]) := fun F Hs v r => by
  cases r with
  | @tup p xs _ h ra =>
    have e := RpA.strs (ns := [a, b]) ra
    subst e
    refine .tup ?_ (RpA.ofStrs [a, b])
    rcases h with (h | ⟨o, h⟩) | h
    · exact .inl (.inl (fr_oth h fun ys e => nomatch e))
    · exact .inl (.inr ⟨o, fr_oth h fun ys e => nomatch e⟩)
    · exact .inr h
end
section
variable {P : Program} {w : World} {K : PySem.W.Frag} {mg : Str → Option Value} {base : Heap} {x : Str} {st : Stmt} {N ps : List Str} {k : Nat} {S : List D → D → Prop}
/-- a def whose result is new -/
theorem clN (D : Df K mg x ps st) (sc : FnScope N ps (defScope st)) (len : ∀ ds d, S ds d → ds.length = ps.length)
    (body : ∀ (f : Addr) (cdv : Value) (A : Around) (outer : List Env) (s : Shared) (H : Hp) (E : XK), Room k (A.deeper (envOfC x (defScope st) s.heap.objs.size f cdv)) →
      ∃ t, PSs (cxOf CX0 P w K mg base N x (defScope st) f cdv A outer s H E).nox (defBody st) t ∧ ∀ ds d, S ds d → Sd K E0 t (startG N ds) (.rn d)) : Cl P w K mg base CX0 (k + 1) x (spN K S) := by
  obtain ⟨f, fd, F, hm, b⟩ := D.ex
  refine ⟨f, fd, ps, F.ok sc (fun vs H Q E h => ?_) (fun cdv A outer s H vs Q E hr h => ?_), hm, F.kp, b⟩
  · obtain ⟨F', ds, d, e, r, hs, q⟩ := h
    rw [r.len]; exact len ds d hs
  · obtain ⟨t, ht, hd⟩ := body f cdv A outer s H E hr
    obtain ⟨F', ds, d, e, r, hs, q⟩ := h
    exact ⟨t, ht, hd ds d hs F' H F' H _ _ (ok_start e r) fun v F2 H2 g1 r1 => q v F2 H2 g1 r1⟩
end
section
variable {K : PySem.W.Frag} {Γ : Gam} {d : D} {ds : List D} {tas : TA} {te ta tb : TE} {S : List D → D → Prop} {E' : XK}
theorem edH_call (h : Ea K tas Γ ds) (hs : S ds d) : EdH K (tCall (spN K S) [] E' tas) Γ d := fun F0 H0 F H σ ok Q q => h F0 H0 F H σ ok _ fun vs F1 H1 g1 r1 =>
  ⟨F1, ds, d, g1.s, by rw [List.append_nil]; exact r1, hs, fun v F2 H2 g2 r2 => q v F2 H2 (g1.trans g2) (r2.mono (fr_weak g1.h))⟩
end
/-! ### new lists of leaves -/
section
variable {K : PySem.W.Frag} {E : XK} {Γ : Gam} {d : D} {ds : List D} {ta tb te : TE}
theorem edH_ow (h : Ew K te Γ ds) (l : ∀ d ∈ ds, Lf K d) : EdH K te Γ (.lst ds) := fun F0 H0 F H σ ok Q q => h F0 H0 F H σ ok _ fun p vs F1 H1 g1 hp hf h1 r1 => by
  have sF : Same F1 (upd F1 p (.lst vs)) := same_upd hf
  have g : Gr F H (upd F1 p (.lst vs)) H1 := ⟨g1.f.trans sF, fun x y e => by
    by_cases hx : x = p
    · subst hx; rw [upd_same] at e; cases e; exact h1
    · rw [upd_ne hx] at e; exact g1.s x y e, g1.h, fun x a b => by
    have hx : x ≠ p := fun z => b (by rw [z]; exact hp)
    rw [upd_ne hx]; exact g1.n x a b⟩
  exact q _ _ _ g (.lst (fr_new hp upd_same) (rpa_lf l (r1.mono sF)))
theorem sd_retL (h : Ew K te Γ ds) (l : ∀ d ∈ ds, Lf K d) (e : D.lst ds = d) : Sd K E (tRet te) Γ (.rn d) := e ▸ sd_retH (edH_ow h l)
theorem ew_mulL {i : Int} (ha : Ed K ta Γ (.lst ds)) (hb : Ed K tb Γ (.int i)) (h : ds.length * i.toNat ≤ 100000) (hi : -(2 ^ 63) ≤ i ∧ i < 2 ^ 63) : Ew K (tOp rMulA ta tb) Γ (List.replicate i.toNat ds).flatten := fun F0 H0 F H σ ok Q q =>
  ha F0 H0 F H σ ok _ fun v F1 H1 g1 r1 => hb F0 H0 F1 H1 σ (ok.grow g1) _ fun w F2 H2 g2 r2 => by
    cases r2
    cases r1 with
    | @lst a xs _ h1 ra =>
      refine .inr ⟨a, i, xs, rfl, rfl, g2.s _ _ (g2.f _ _ h1), hi.1, hi.2, Nat.le_trans (by rw [ra.len]; exact h) (by decide), fun p hp => ?_⟩
      have g3 := Gr.newO (o := .lst (List.replicate i.toNat xs).flatten) g2.s hp
      exact q p _ F2 _ ((g1.trans g2).trans g3) ((g1.trans g2).h.free hp) (g2.s.free hp) upd_same ((ra.mono g2.f).rep _)
/-- e is None -/
theorem sd_clear (i : Nat) {ds : List D} (hi : Γ[i]? = some (.ow ds)) : Sd K E (tDrop (tBM0 K "list" rClear (tVar i))) Γ (.nx (Γ.set i (.ow []))) := fun F0 H0 F H σ De ok fin => by
  obtain ⟨p, ho, a, b, c, e, r, _⟩ := ok.ow i (.lst ds) hi
  obtain ⟨vs, rfl, r'⟩ : ∃ vs, ho = .lst vs ∧ RpA K F vs ds := by
    cases r with
    | lst r => exact ⟨_, rfl, r⟩
  refine ⟨.ref p, a, tyV_list b, ?_⟩
  refine ⟨p, vs, rfl, rfl, b, ?_⟩
  exact fin F _ σ (Same.refl F) (ok.upOw hi a (.lst .nil) trivial)
end
/-! ### in a row, the things beside as told -/
section
variable {K : PySem.W.Frag} {E : XK} {Γ Γ' : Gam} {Om : OmT} {te to tx : TE} {t : TT} {ts tu : TS} {d : D} {ds : List D} {R : D → OmT → Prop} {RN : Gam → OmT → Prop} {o : Oc} {Om1 : OmT}
theorem sdR_skip (u : UpG Om Γ Γ') (h : Et K t Γ' false) (h2 : SdR K tu Γ Om R) : SdR K (tSeq (tIfS t ts tNext) tu) Γ Om R := sdR_seq (sdN_skip u h) fun Γ1 Om1 hr => by
  obtain ⟨rfl, rfl⟩ := hr
  exact h2
theorem sdN_skipS (u : UpG Om Γ Γ') (h : Et K t Γ' false) (h2 : SdN K tu Γ Om RN) : SdN K (tSeq (tIfS t ts tNext) tu) Γ Om RN := sdN_seq (sdN_skip u h) fun Γ1 Om1 hr => by
  obtain ⟨rfl, rfl⟩ := hr
  exact h2
theorem sdR_setv (i : Nat) (h : EdE K te Γ Om fun d' Om' => d' = d ∧ Om' = Om1) (h2 : SdR K tu (Γ.set i (.fz d)) Om1 R) : SdR K (tSeq (tAsg te (gName i)) tu) Γ Om R := sdR_seq (sdN_set i h) fun Γ1 Om2 hr => by
  obtain ⟨_, ⟨rfl, rfl⟩, rfl⟩ := hr
  exact h2
theorem sdN_setv (i : Nat) (h : EdE K te Γ Om fun d' Om' => d' = d ∧ Om' = Om1) (h2 : SdN K tu (Γ.set i (.fz d)) Om1 RN) : SdN K (tSeq (tAsg te (gName i)) tu) Γ Om RN := sdN_seq (sdN_set i h) fun Γ1 Om2 hr => by
  obtain ⟨_, ⟨rfl, rfl⟩, rfl⟩ := hr
  exact h2
theorem sdN_appv {a : Addr} (ho : Ed K to Γ (.adr a)) (hm : (a, Ow.lst ds) ∈ Om) (h : Ed K tx Γ d) (hl : ds.length < 100000) (h2 : SdN K tu Γ (omSet Om a (.lst (ds ++ [d]))) RN) : SdN K (tSeq (tDrop (tBM K "list" rAppend to (tCons tx tNil))) tu) Γ Om RN := sdN_seq (sdN_app ho hm h hl) fun Γ1 Om2 hr => by
  obtain ⟨rfl, rfl⟩ := hr
  exact h2
end
end DL

namespace DL
open PySem PySem.Spec PyProof.Rows L2
/-! ### a whole that ends True -/
def SdL (K : PySem.W.Frag) (ts : TS) (Γ : Gam) (Om : OmT) : Prop := ∀ (F0 H0 F H : Hp) (σ : L2.St) (De : Ends), OkM K F0 H0 F H σ Γ Om → (∀ H', De.rt (.bl true) H') → ts De σ H
section
variable {K : PySem.W.Frag} {E : XK} {Γ Γ' Γ1 : Gam} {Om : OmT} {te tx : TE} {ts tu : TS} {t : TT} {d : D} {ds : List D} {R : D → OmT → Prop} {RN : Gam → OmT → Prop} {g : TG} {wi : TI} {tas : TA}
theorem sdL_seq (h1 : SdN K ts Γ Om RN) (h2 : ∀ Γ' Om', RN Γ' Om' → SdL K tu Γ' Om') : SdL K (tSeq ts tu) Γ Om := fun F0 H0 F H σ De ok fin => h1 F0 H0 F H σ _ ok fun F1 H1 σ1 Γ' Om' hr ok1 => h2 Γ' Om' hr F0 H0 F1 H1 σ1 De ok1 fin
theorem sdL_pre (h1 : Sd K E ts Γ (.nx Γ1)) (h2 : SdL K tu Γ1 Om) : SdL K (tSeq ts tu) Γ Om := sdL_seq (sdN_of h1) fun Γ' Om' hr => by
  obtain ⟨rfl, rfl⟩ := hr
  exact h2
theorem sdL_ret (h : EdE K te Γ Om R) (hd : ∀ d Om', R d Om' → d = .bl true) : SdL K (tRet te) Γ Om := fun F0 H0 F H σ De ok fin => h F0 H0 F H σ ok _ fun v F1 H1 d Om' hr ok1 r => by
  cases hd d Om' hr
  cases r
  exact fin H1
/-- an owned thing goes beside -/
theorem okM_own {F0 H0 F H : Hp} {σ : L2.St} {i : Nat} {ow : Ow} (ok : OkM K F0 H0 F H σ Γ Om) (hi : Γ[i]? = some (.own ow)) : ∃ p, OkM K F0 H0 F H σ (Γ.set i (.fz (.adr p))) (Om ++ [(p, ow)]) := by
  obtain ⟨Hb, o, hb, ho⟩ := ok.ex
  obtain ⟨p, h, a, b, c, d, r, at_⟩ := o.ow i ow hi
  have s1 : Same Hb (upd Hb p h) := same_upd d
  have F0p : F0 p = none := by
    cases q : F0 p with
    | none => rfl
    | some u =>
      have := o.g.f p u q
      rw [c] at this; cases this
  have np : ∀ q ∈ Om, q.1 ≠ p := fun q hq e => by
    obtain ⟨_, h1, e1, _⟩ := ho q hq
    rw [e, d] at e1; cases e1
  refine ⟨p, ⟨upd Hb p h, ⟨⟨o.g.f, o.g.s, fun x u e => ?_, fun x e n => ?_⟩, by simpa using o.len, fun j e' h' => ?_, fun j w h' => ?_, fun j k w1 w2 q hjk h1 h2 h3 h4 => ?_⟩, fun x u e n => ?_, fun q hq => ?_⟩, ?_⟩
  · by_cases hx : x = p
    · subst hx; rw [upd_same] at e; rw [b]; exact e
    · rw [upd_ne hx] at e; exact o.g.h x u e
  · by_cases hx : x = p
    · subst hx; exact c
    · rw [upd_ne hx] at n; exact o.g.n x e n
  · rcases set_get h' with ⟨rfl, z⟩ | ⟨n, z⟩
    · cases z
      exact ⟨.ref p, a, .adr p⟩
    · exact o.fz j e' z
  · rcases set_get h' with ⟨rfl, z⟩ | ⟨n, z⟩
    · cases z
    · obtain ⟨q, h2, a2, b2, c2, d2, r2, at2⟩ := o.ow j w z
      have qp : q ≠ p := fun e => by
        subst e
        exact o.ap i j ow w q n hi z a a2
      exact ⟨q, h2, a2, b2, c2, by rw [upd_ne qp]; exact d2, r2, at2⟩
  · rcases set_get h1 with ⟨rfl, z⟩ | ⟨n1, z1⟩
    · cases z
    · rcases set_get h2 with ⟨rfl, z⟩ | ⟨n2, z2⟩
      · cases z
      · exact o.ap j k w1 w2 q hjk z1 z2 h3 h4
  · exact s1 x u (hb x u e fun ⟨q, hq, e2⟩ => n ⟨q, List.mem_append_left _ hq, e2⟩)
  · rcases List.mem_append.mp hq with z | z
    · obtain ⟨f0, h1, e1, r1⟩ := ho q z
      exact ⟨f0, h1, s1 _ _ e1, r1⟩
    · rw [List.mem_singleton.mp z]
      exact ⟨F0p, h, upd_same, r⟩
  · rw [List.map_append]
    refine List.nodup_append.mpr ⟨ok.nd, by simp, fun x hx y hy e => ?_⟩
    obtain ⟨q, hq, rfl⟩ := List.mem_map.mp hx
    have : y = p := by simpa using hy
    exact np q hq (e.trans this)
theorem sdL_own (i : Nat) {ow : Ow} (hi : Γ[i]? = some (.own ow)) (h : ∀ p, (∀ q ∈ Om, q.1 ≠ p) → SdL K ts (Γ.set i (.fz (.adr p))) (Om ++ [(p, ow)])) : SdL K ts Γ Om := fun F0 H0 F H σ De ok fin => by
  obtain ⟨p, ok1⟩ := okM_own ok hi
  refine h p (fun q hq e => ?_) F0 H0 F H σ De ok1 fin
  have nd := ok1.nd
  rw [List.map_append] at nd
  exact (List.nodup_append.mp nd).2.2 q.1 (List.mem_map_of_mem hq) p (by simp) e
theorem sdL_nd (h : (Om.map (·.1)).Nodup → SdL K ts Γ Om) : SdL K ts Γ Om := fun F0 H0 F H σ De ok fin => h ok.nd F0 H0 F H σ De ok fin
theorem sdL_freeze (i : Nat) {ow : Ow} (hi : Γ[i]? = some (.own ow)) (h : SdL K ts (Γ.set i (.fz ow.toD)) Om) : SdL K ts Γ Om := fun F0 H0 F H σ De ok fin => by
  obtain ⟨Hb, o, hb, ho⟩ := ok.ex
  obtain ⟨F', g, sf, ok', _⟩ := o.freeze hi
  exact h F0 H0 F' H σ De ⟨⟨Hb, ok', hb, fun p hp => by
    obtain ⟨f0, h1, e1, r1⟩ := ho p hp
    exact ⟨f0, h1, e1, r1.mono sf⟩⟩, ok.nd⟩ fin
/-- x.append(e) of an owned list, e making things beside -/
theorem sdN_appE (i : Nat) (hi : Γ[i]? = some (.ow ds)) (h : EdE K te Γ Om R) (hl : ds.length < 100000) : SdN K (tDrop (tBM K "list" rAppend (tVar i) (tCons te tNil))) Γ Om fun Γ1 Om1 => ∃ d, R d Om1 ∧ Γ1 = Γ.set i (.ow (ds ++ [d])) := fun F0 H0 F H σ De ok fin => by
  obtain ⟨Hb, o, hb, hho⟩ := ok.ex
  obtain ⟨p, ho, a, b, c, e, r, _⟩ := o.ow i (.lst ds) hi
  obtain ⟨vs, rfl, r'⟩ : ∃ vs, ho = .lst vs ∧ RpA K F vs ds := by
    cases r with
    | lst r => exact ⟨_, rfl, r⟩
  refine ⟨.ref p, a, tyV_list b, ?_⟩
  refine h F0 H0 F H σ ok _ fun v F1 H1 d Om' hr ok1 r1 => ?_
  obtain ⟨Hb1, o1, hb1, hho1⟩ := ok1.ex
  obtain ⟨p1, ho1, a1, b1, c1, e1, r2, _⟩ := o1.ow i (.lst ds) hi
  rw [a] at a1
  cases a1
  obtain ⟨ws, rfl, r3⟩ : ∃ vs, ho1 = .lst vs ∧ RpA K F1 vs ds := by
    cases r2 with
    | lst r => exact ⟨_, rfl, r⟩
  refine ⟨p, ws, v, rfl, rfl, b1, Nat.lt_of_lt_of_le (by rw [r3.len]; exact hl) (by decide), ?_⟩
  exact fin F1 _ σ _ Om' ⟨d, hr, rfl⟩ ⟨⟨Hb1, o1.upOw hi a (.lst (r3.append (.one r1))) trivial, hb1, hho1⟩, ok1.nd⟩
/-- for over range, things beside -/
theorem sdL_rng {n : Nat} (St : Nat → Gam → OmT → Prop) (h : Ea K tas Γ [.int (n : Nat)]) (hn : n < 100000) (h0 : St 0 Γ Om) (step : ∀ i Γ1 Om1, i < n → St i Γ1 Om1 → ∃ js Γ2, Eg K g js (.int (i : Nat)) Γ1 Γ2 ∧ SdN K ts Γ2 Om1 (St (i + 1))) (fin : ∀ Γ1 Om1, St n Γ1 Om1 → SdL K tu Γ1 Om1) : SdL K (tSeq (tFor (iRng1 tas) g ts) tu) Γ Om := fun F0 H0 F H σ De ok hf => by
  obtain ⟨Hb, o, hb, hho⟩ := ok.ex
  refine h F0 Hb F H σ o _ fun v F1 H1 g1 r1 => ?_
  have e := RpA.ints (ns := [(n : Int)]) r1
  refine ⟨(n : Int), e, by omega, by omega, ?_⟩
  refine ⟨fun i m σ H => m = n - i ∧ i ≤ n ∧ ∃ Γ1 Om1 F', St i Γ1 Om1 ∧ OkM K F0 H0 F' H σ Γ1 Om1, ⟨n, rfl, Nat.zero_le _, Γ, Om, F1, h0, ok.grow g1⟩, ?_⟩
  rintro i m σ2 H2 ⟨rfl, hi, Γ2, Om2, F2, st, ok2⟩
  by_cases hlt : i < n
  · refine .inr ⟨by rw [Int.toNat_natCast]; exact hlt, fun σ' H' => ∃ Γ1 Om1 F', St (i + 1) Γ1 Om1 ∧ OkM K F0 H0 F' H' σ' Γ1 Om1, fun σ' H' z => ⟨n - (i + 1), by omega, rfl, by omega, z⟩, fun x H3 hy => ?_⟩
    obtain ⟨rfl, rfl⟩ := hy
    obtain ⟨js, Γ3, hg, hs⟩ := step i Γ2 Om2 hlt st
    obtain ⟨Hb2, o2, hb2, hho2⟩ := ok2.ex
    refine hg F0 Hb2 F2 H3 σ2 _ o2 (by rw [Int.zero_add]; exact .int _) _ fun σ4 ok4 _ => ?_
    exact hs F0 H0 F2 H3 σ4 _ ⟨⟨Hb2, ok4, hb2, hho2⟩, ok2.nd⟩ fun F5 H5 σ5 Γ5 Om5 hr ok5 => ⟨Γ5, Om5, F5, hr, ok5⟩
  · have e2 : i = n := by omega
    subst e2
    exact .inl ⟨by show ((i : Nat) : Int).toNat ≤ i; omega, fin Γ2 Om2 st F0 H0 F2 H2 σ2 De ok2 hf⟩
/-- for over a frozen list, no slot owning anything -/
theorem sdL_for (St : Nat → Gam → OmT → Prop) (no : ∀ (i : Nat) (o : Ow), Γ[i]? ≠ some (.own o)) (hw : Ei K wi Γ ds) (h0 : St 0 Γ Om) (step : ∀ i Γ1 Om1 d, ds[i]? = some d → St i Γ1 Om1 → ∃ js Γ2, Eg K g js d Γ1 Γ2 ∧ SdN K ts Γ2 Om1 (St (i + 1))) (fin : ∀ Γ1 Om1, St ds.length Γ1 Om1 → SdL K tu Γ1 Om1) : SdL K (tSeq (tFor wi g ts) tu) Γ Om := fun F0 H0 F H σ De ok hf => by
  obtain ⟨Hb, o, hb, hho⟩ := ok.ex
  refine hw F0 Hb F H σ o _ fun J F1 H1 g1 wk => ?_
  have ok1 := ok.grow g1
  obtain ⟨Hb1, o1, hb1, hho1⟩ := ok1.ex
  have okb : OkM K F1 H1 F1 H1 σ Γ Om := ⟨⟨H1, ⟨Gr.refl o1.g.s, o1.len, o1.fz, fun i w h => absurd h (no i w), fun i j w1 w2 p _ h => absurd h (no i w1)⟩, fun a u e _ => e, fun p hp => ok1.gr.o p hp⟩, ok1.nd⟩
  refine ⟨fun i m σ H => m = ds.length - i ∧ i ≤ ds.length ∧ ∃ Γ1 Om1 F', St i Γ1 Om1 ∧ OkM K F1 H1 F' H σ Γ1 Om1, ⟨ds.length, rfl, Nat.zero_le _, Γ, Om, F1, h0, okb⟩, ?_⟩
  rintro i m σ2 H2 ⟨rfl, hi, Γ2, Om2, F2, st, ok2⟩
  by_cases hlt : i < ds.length
  · refine .inr ⟨wk.go i F2 H2 ok2.gr.f ok2.gr.s hlt, fun σ' H' => ∃ Γ' Om' F', St (i + 1) Γ' Om' ∧ OkM K F1 H1 F' H' σ' Γ' Om', fun σ' H' z => ⟨ds.length - (i + 1), by omega, rfl, by omega, z⟩, fun x H3 hy => ?_⟩
    obtain ⟨F3, d', g3, hd', rx⟩ := wk.yl i x F2 H2 H3 ok2.gr.f ok2.gr.s hlt hy
    obtain ⟨js, Γ3, hg, hs⟩ := step i Γ2 Om2 d' hd' st
    have ok3 := ok2.grow g3
    obtain ⟨Hb2, o2, hb2, hho2⟩ := ok3.ex
    refine hg F1 Hb2 F3 H3 σ2 x o2 rx _ fun σ4 ok4 _ => ?_
    exact hs F1 H1 F3 H3 σ4 _ ⟨⟨Hb2, ok4, hb2, hho2⟩, ok3.nd⟩ fun F5 H5 σ5 Γ5 Om5 hr ok5 => ⟨Γ5, Om5, F5, hr, ok5⟩
  · have e2 : i = ds.length := by omega
    subst e2
    exact .inl ⟨wk.st F2 H2 ok2.gr.f ok2.gr.s, fin Γ2 Om2 st F1 H1 F2 H2 σ2 De ok2 hf⟩
theorem sdL_ifE {b : Bool} {tb : TS} (h : Et K t Γ b) (h1 : b = true → Sd K E ts Γ (.nx Γ1)) (h2 : b = false → Sd K E tb Γ (.nx Γ1)) (h3 : SdL K tu Γ1 Om) : SdL K (tSeq (tIfS t ts tb) tu) Γ Om := sdL_pre (sd_if h h1 h2) h3
end
/-! ### a dict of new things -/
section
variable {K : PySem.W.Frag} {Γ : Gam} {F0 Hb F H : Hp} {σ : L2.St}
theorem Ok.addO (o : Ok K F0 Hb F H σ Γ) {p : Addr} {h : HO} (Fp : F p = none) (Hp : H p = some h) (Hbp : Hb p = none) (np : ∀ (i : Nat) (w : Ow) (q : Addr), Γ[i]? = some (Sl.own w) → σ[i]? = some (some (V.ref q)) → q ≠ p) : Ok K F0 (upd Hb p h) F H σ Γ := by
  refine ⟨⟨o.g.f, o.g.s, fun x u e => ?_, fun x e n => ?_⟩, o.len, o.fz, fun i w hw => ?_, o.ap⟩
  · by_cases hx : x = p
    · subst hx; rw [upd_same] at e; rw [Hp]; exact e
    · rw [upd_ne hx] at e; exact o.g.h x u e
  · by_cases hx : x = p
    · subst hx; exact Fp
    · rw [upd_ne hx] at n; exact o.g.n x e n
  · obtain ⟨q, h2, a2, b2, c2, d2, r2, at2⟩ := o.ow i w hw
    exact ⟨q, h2, a2, b2, c2, by rw [upd_ne (np i w q hw a2)]; exact d2, r2, at2⟩
theorem Ok.fzNew (o : Ok K F0 Hb F H σ Γ) {p : Addr} {h : HO} (Fp : F p = none) (Hbp : Hb p = none) (np : ∀ (i : Nat) (w : Ow) (q : Addr), Γ[i]? = some (Sl.own w) → σ[i]? = some (some (V.ref q)) → q ≠ p) : Ok K F0 Hb (upd F p h) (upd H p h) σ Γ := by
  have s1 : Same F (upd F p h) := same_upd Fp
  refine ⟨⟨o.g.f.trans s1, fun x u e => ?_, fun x u e => ?_, fun x e n => ?_⟩, o.len, fun i d hd => ?_, fun i w hw => ?_, o.ap⟩
  · by_cases hx : x = p
    · subst hx; rw [upd_same] at e ⊢; exact e
    · rw [upd_ne hx] at e ⊢; exact o.g.s x u e
  · have hx : x ≠ p := fun z => by rw [z, Hbp] at e; cases e
    rw [upd_ne hx]; exact o.g.h x u e
  · have hx : x ≠ p := fun z => n (by rw [z]; exact Hbp)
    rw [upd_ne hx]; exact o.g.n x e n
  · obtain ⟨v, a, r⟩ := o.fz i d hd
    exact ⟨v, a, r.mono s1⟩
  · obtain ⟨q, h2, a2, b2, c2, d2, r2, at2⟩ := o.ow i w hw
    have qp := np i w q hw a2
    exact ⟨q, h2, a2, by rw [upd_ne qp]; exact b2, by rw [upd_ne qp]; exact c2, d2, r2.mono s1, at2⟩
end
theorem edE_disp {K : PySem.W.Frag} {Γ : Gam} {Om : OmT} {te1 : TE} {tas : TA} {d1 dc : D} {ds : List D} {C : Addr} {gs : List (Str × D)} {S : List D → List (Str × D) → Prop} {E' : XK} {j : Nat} (h1 : Ed K te1 Γ d1) (ha : Ea K tas Γ ds) (hs : S ds gs) (hj : Γ[j]? = some (.fz dc)) :
    EdE K (tDisp [(tC (.str "size"), te1), (tC (.str "span"), tMake C (spIO K C S) [] E' tas), (tC (.str "tops"), tLst tNil), (tC (.str "rows"), tLst tNil), (tC (.str "copies"), tVar j)]) Γ Om fun d Om' => ∃ s t r, d = .dic [("size", d1), ("span", .adr s), ("tops", .adr t), ("rows", .adr r), ("copies", dc)] ∧ Om' = Om ++ [(s, .ins none C gs), (t, .lst []), (r, .lst [])] := fun F0 H0 F H σ ok Q fin => by
  obtain ⟨Hb, o, hb, hho⟩ := ok.ex
  intro p hp
  have g0 := Gr.newO (o := .dK []) o.g.s hp
  refine h1 F0 Hb F _ σ (o.grow g0) _ fun v1 F1 H1 g1 r1 => ?_
  have g01 := g0.trans g1
  refine ha F0 Hb F1 H1 σ (o.grow g01) _ fun vs F2 H2 g2 r2 => ?_
  have g02 := g01.trans g2
  intro x dx hx hdx ne
  refine ⟨F2, H2, x, dx, vs, ds, gs, by rw [List.append_nil], g2.s, hx, hdx, ne, rfl, r2, hs, fun F3 H3 dy fs g3 f3 h3 rf => ⟨rfl, ?_⟩⟩
  have g03 := g02.trans g3
  refine ⟨by show 0 ≤ sizeLine; exact Nat.zero_le _, fun t ht => ?_⟩
  have g4 := Gr.newO (o := .lst []) g3.s ht
  have g04 := g03.trans g4
  refine ⟨by show 0 ≤ sizeLine; exact Nat.zero_le _, fun r hr => ?_⟩
  have g5 := Gr.newO (o := .lst []) g4.s hr
  have g05 := g04.trans g5
  obtain ⟨vc, ac, rc⟩ := o.fz j _ hj
  refine ⟨vc, ac, ?_⟩
  -- who is who
  have Hp1 : upd H p (.dK []) p = some (.dK []) := upd_same
  have p3 : H3 p = some (.dK []) := (g1.h.trans (g2.h.trans g3.h)) p _ Hp1
  have p2 : H2 p = some (.dK []) := (g1.h.trans g2.h) p _ Hp1
  have xp : x ≠ p := fun z => by rw [z, p2] at hx; cases hx
  have tp : t ≠ p := fun z => by rw [z, p3] at ht; cases ht
  have tx : t ≠ x := fun z => by rw [z, h3] at ht; cases ht
  have rt : r ≠ t := fun z => by rw [z, upd_same] at hr; cases hr
  rw [upd_ne rt] at hr
  have rp : r ≠ p := fun z => by rw [z, p3] at hr; cases hr
  have rx : r ≠ x := fun z => by rw [z, h3] at hr; cases hr
  let kvs : List (Key × V) := [(Sum.inr "size", v1), (Sum.inr "span", .ref x), (Sum.inr "tops", .ref t), (Sum.inr "rows", .ref r), (Sum.inr "copies", vc)]
  refine ⟨by rw [upd_ne (fun z => rp z.symm), upd_ne (fun z => tp z.symm)]; exact p3, kvs, rfl, by show 5 ≤ 15; decide, ?_⟩
  have em : mergeK [] kvs = kvs := by rfl
  rw [em]
  -- what stands behind
  have F3p : F3 p = none := by
    have f0 : F p = none := o.g.s.free hp
    have q1 := (g1.trans (g2.trans g3)).n p f0 (by rw [Hp1]; exact fun z => nomatch z)
    exact q1
  have hbx : Hb x = none := (o.g.h.trans g02.h).free hx
  have hbt : Hb t = none := (o.g.h.trans g03.h).free ht
  have hbr : Hb r = none := (o.g.h.trans g03.h).free hr
  have hbp : Hb p = none := o.g.h.free hp
  have own : ∀ {a : Addr}, H a = none → ∀ (i : Nat) (w : Ow) (q : Addr), Γ[i]? = some (Sl.own w) → σ[i]? = some (some (V.ref q)) → q ≠ a := fun {a} ha i w q h1 h2 z => by
    obtain ⟨q', h', a', b', _⟩ := o.ow i w h1
    rw [h2] at a'
    cases a'
    rw [z, ha] at b'; cases b'
  have nx := own (g02.h.free hx)
  have nt := own (g03.h.free ht)
  have nr := own (g03.h.free hr)
  have np := own hp
  have o5 := o.grow g05
  have F3t : F3 t = none := g3.s.free ht
  have F3r : F3 r = none := g3.s.free hr
  have x5 : (upd (upd H3 t (.lst [])) r (.lst [])) x = some (.ins C dy fs) := by rw [upd_ne (fun z => rx z.symm), upd_ne (fun z => tx z.symm)]; exact h3
  have t5 : (upd (upd H3 t (.lst [])) r (.lst [])) t = some (.lst []) := by rw [upd_ne (fun z => rt z.symm), upd_same]
  have o6 := o5.addO (p := x) f3 x5 hbx nx
  have o7 := o6.addO (p := t) F3t t5 (by rw [upd_ne tx]; exact hbt) nt
  have o8 := o7.addO (p := r) F3r upd_same (by rw [upd_ne rt, upd_ne rx]; exact hbr) nr
  have o9 := o8.fzNew (p := p) (h := .dK kvs) F3p (by rw [upd_ne (fun z => rp z.symm), upd_ne (fun z => tp z.symm), upd_ne (fun z => xp z.symm)]; exact hbp) np
  have sF : Same F3 (upd F3 p (.dK kvs)) := same_upd F3p
  have nin : ∀ q ∈ Om, q.1 ≠ x ∧ q.1 ≠ t ∧ q.1 ≠ r := fun q hq => by
    obtain ⟨f0, h, e1, r1⟩ := hho q hq
    refine ⟨fun z => ?_, fun z => ?_, fun z => ?_⟩
    · rw [z, hbx] at e1; cases e1
    · rw [z, hbt] at e1; cases e1
    · rw [z, hbr] at e1; cases e1
  have s03 : Same F F3 := g03.f
  have F0n : ∀ {a : Addr}, F3 a = none → F0 a = none := fun {a} ha => (o.g.f.trans s03).free ha
  refine fin (.ref p) _ _ _ (Om ++ [(x, .ins none C gs), (t, .lst []), (r, .lst [])]) ⟨x, t, r, rfl, rfl⟩ ⟨⟨_, o9, fun a u e n => ?_, fun q hq => ?_⟩, ?_⟩ ?_
  · have na : ∀ b, b = x ∨ b = t ∨ b = r → a ≠ b := fun b hb2 z => n (by
      rcases hb2 with y | y | y
      · exact ⟨(x, .ins none C gs), by simp, by rw [z, y]⟩
      · exact ⟨(t, .lst []), by simp, by rw [z, y]⟩
      · exact ⟨(r, .lst []), by simp, by rw [z, y]⟩)
    rw [upd_ne (na r (.inr (.inr rfl))), upd_ne (na t (.inr (.inl rfl))), upd_ne (na x (.inl rfl))]
    exact hb a u e fun ⟨q, hq, y⟩ => n ⟨q, List.mem_append_left _ hq, y⟩
  · rcases List.mem_append.mp hq with z | z
    · obtain ⟨f0, h, e1, q1⟩ := hho q z
      obtain ⟨n1, n2, n3⟩ := nin q z
      exact ⟨f0, h, by rw [upd_ne n3, upd_ne n2, upd_ne n1]; exact e1, q1.mono (s03.trans sF)⟩
    · rcases List.mem_cons.mp z with e | z
      · subst e
        exact ⟨F0n f3, _, by rw [upd_ne (fun y => rx y.symm), upd_ne (fun y => tx y.symm)]; exact upd_same, .ins (rf.mono sF)⟩
      · rcases List.mem_cons.mp z with e | z
        · subst e
          exact ⟨F0n F3t, _, by rw [upd_ne (fun y => rt y.symm)]; exact upd_same, .lst .nil⟩
        · rw [List.mem_singleton.mp z]
          exact ⟨F0n F3r, _, upd_same, .lst .nil⟩
  · rw [List.map_append]
    refine List.nodup_append.mpr ⟨ok.nd, ?_, fun a ha b hb e => ?_⟩
    · simp only [List.map_cons, List.map_nil, List.nodup_cons, List.mem_cons, List.not_mem_nil, or_false, not_or, not_false_eq_true, List.nodup_nil, and_true]
      exact ⟨⟨fun z => tx z.symm, fun z => rx z.symm⟩, fun z => rt z.symm⟩
    · obtain ⟨q, hq, rfl⟩ := List.mem_map.mp ha
      obtain ⟨n1, n2, n3⟩ := nin q hq
      simp only [List.map_cons, List.map_nil, List.mem_cons, List.not_mem_nil, or_false] at hb
      rcases hb with y | y | y
      · exact n1 (e.trans y)
      · exact n2 (e.trans y)
      · exact n3 (e.trans y)
  · exact .dic (fs := [("size", v1), ("span", .ref x), ("tops", .ref t), ("rows", .ref r), ("copies", vc)]) upd_same (.cons (r1.mono ((g2.f.trans g3.f).trans sF)) (.cons (.adr x) (.cons (.adr t) (.cons (.adr r) (.cons (rc.mono (s03.trans sF)) .nil)))))
/-- the law itself -/
theorem fnLawM {P : Program} {w : World} {K : PySem.W.Frag} {mg : Str → Option Value} {base : Heap} {x qual : Str} {st : Stmt} {f : Addr} {fd : FuncData} {N ps : List Str} {k : Nat} (F : Fun K x qual st f fd) (sc : FnScope N ps (defScope st)) (h1 : ps.length = 1)
    (body : ∀ (cdv : Value) (A : Around) (outer : List Env) (s : Shared) (H : Hp) (E : XK), Room k (A.deeper (envOfC qual (defScope st) s.heap.objs.size f cdv)) →
      ∃ t, PSs (cxOf CX0 P w K mg base N qual (defScope st) f cdv A outer s H E).nox (defBody st) t ∧ ∀ ns : List Int, ns.length ≤ 63 → (∀ z ∈ ns, Builtin.Int.intBits z ≤ 1048576) → SdL K t (startG N [.scr ns]) []) : FnOk P w K mg base CX0 (k + 1) f fd ps (spLaw K) :=
  F.ok sc (fun vs H Q E h => by obtain ⟨a, ns, rfl, _⟩ := h; exact h1.symm) fun cdv A outer s H vs Q E hr h => by
    obtain ⟨a, ns, rfl, hs, hl, hb, q⟩ := h
    obtain ⟨t, ht, hd⟩ := body cdv A outer s H E hr
    exact ⟨t, ht, hd ns hl hb H H H H _ _ (okM_start (Same.refl H) (.cons (.scr hs) .nil) List.nodup_nil fun p hp => nomatch hp) q⟩
end DL

set_option Elab.async false
set_option linter.all false
set_option maxRecDepth 100000
set_option maxHeartbeats 4000000
open PySem PySem.Spec PyProof.Rows L2 DL
local macro_rules | `(tactic| wtm_at "ed") => `(tactic| first
  | with_reducible exact ed_int _
  | with_reducible exact ed_bl _
  | with_reducible exact ed_dct
  | with_reducible exact ed_non
  | with_reducible exact ed_str _
  | with_reducible exact ed_ty _
  | with_reducible exact ed_adr _
  | ((with_reducible apply ed_fz); exact rfl)
  | with_reducible apply ed_op
  | with_reducible apply ed_un
  | with_reducible apply ed_cb
  | with_reducible apply ed_call
  | with_reducible apply ed_callX
  | with_reducible apply ed_tup
  | with_reducible apply ed_lst
  | with_reducible apply ed_sl
  | with_reducible exact eo_none
  | with_reducible apply eo_some
  | with_reducible exact ea_nil
  | with_reducible apply ea_cons
  | with_reducible apply et_test
  | with_reducible apply et_B
  | with_reducible apply et_not
  | with_reducible exact et_yes
  | with_reducible apply ed_notV
  | ((with_reducible show autoParam _ _); exact Nat.le_of_ble_eq_true rfl)
  | wtm_at "rr")
local macro_rules | `(tactic| wtm_at "rr") => `(tactic| first
  | with_reducible exact r2_addI
  | with_reducible exact r2_subI
  | with_reducible exact r2_ltI
  | with_reducible exact r2_leI
  | with_reducible exact r2_gt
  | with_reducible exact r2_ge
  | with_reducible exact r2_eqI
  | with_reducible exact r2_neI
  | with_reducible exact r2_isB
  | with_reducible exact r2_notB
  | with_reducible exact r1_neg
  | with_reducible exact rc_abs
  | with_reducible exact rc_max2
  | with_reducible exact rc_lenL
  | with_reducible exact rc_lenT
  | with_reducible exact rc_lenP
  | with_reducible exact rc_intB
  | with_reducible exact rs_lst
  | with_reducible exact rs_scr
  | ((with_reducible apply r2_mod); first | decide | omega | skip)
  | ((with_reducible apply r2_ixT); exact rfl)
  | ((with_reducible apply r2_ixL); first | exact rfl | skip)
  | with_reducible apply r2_mulI
  | ((with_reducible apply rc_isi) <;> first | exact rfl | decide +kernel | skip))
namespace Kx
def topS (i : Nat) : Stmt := PySem.Challenge.pw_weighwords_k04_spans.main.body.getD i (.Pass ⟨0, 0, 0, 0⟩)

abbrev s_is_whole : Stmt := topS 12
theorem sc_is_whole : FnScope ["thing"] ["thing"] (defScope s_is_whole) := ⟨rfl, rfl, rfl, by decide +kernel, rfl, by decide +kernel, by decide +kernel⟩
abbrev s_divisor : Stmt := topS 13
theorem sc_divisor : FnScope ["one", "other", "rest"] ["one", "other"] (defScope s_divisor) := ⟨rfl, rfl, rfl, by decide +kernel, rfl, by decide +kernel, by decide +kernel⟩
abbrev s_is_share : Stmt := topS 14
theorem sc_is_share : FnScope ["thing"] ["thing"] (defScope s_is_share) := ⟨rfl, rfl, rfl, by decide +kernel, rfl, by decide +kernel, by decide +kernel⟩
abbrev s_share : Stmt := topS 15
theorem sc_share : FnScope ["top", "bottom", "common"] ["top", "bottom"] (defScope s_share) := ⟨rfl, rfl, rfl, by decide +kernel, rfl, by decide +kernel, by decide +kernel⟩
abbrev s_plus : Stmt := topS 16
theorem sc_plus : FnScope ["one", "other"] ["one", "other"] (defScope s_plus) := ⟨rfl, rfl, rfl, by decide +kernel, rfl, by decide +kernel, by decide +kernel⟩
abbrev s_less : Stmt := topS 17
theorem sc_less : FnScope ["one", "other"] ["one", "other"] (defScope s_less) := ⟨rfl, rfl, rfl, by decide +kernel, rfl, by decide +kernel, by decide +kernel⟩
abbrev s_times : Stmt := topS 18
theorem sc_times : FnScope ["one", "other"] ["one", "other"] (defScope s_times) := ⟨rfl, rfl, rfl, by decide +kernel, rfl, by decide +kernel, by decide +kernel⟩
abbrev s_over : Stmt := topS 19
theorem sc_over : FnScope ["one", "other"] ["one", "other"] (defScope s_over) := ⟨rfl, rfl, rfl, by decide +kernel, rfl, by decide +kernel, by decide +kernel⟩
abbrev s_is_row : Stmt := topS 21
theorem sc_is_row : FnScope ["thing", "size", "part"] ["thing", "size"] (defScope s_is_row) := ⟨rfl, rfl, rfl, by decide +kernel, rfl, by decide +kernel, by decide +kernel⟩
abbrev s_lead_of : Stmt := topS 22
theorem sc_lead_of : FnScope ["row", "place"] ["row"] (defScope s_lead_of) := ⟨rfl, rfl, rfl, by decide +kernel, rfl, by decide +kernel, by decide +kernel⟩
abbrev s_moved : Stmt := topS 23
theorem sc_moved : FnScope ["row", "part", "other", "one", "two"] ["row", "part", "other"] (defScope s_moved) := ⟨rfl, rfl, rfl, by decide +kernel, rfl, by decide +kernel, by decide +kernel⟩
abbrev s_SpanD_initD : Stmt := inClass (topS 24) 0
theorem sc_SpanD_initD : FnScope ["self", "size"] ["self", "size"] (defScope s_SpanD_initD) := ⟨rfl, rfl, rfl, by decide +kernel, rfl, by decide +kernel, by decide +kernel⟩
abbrev s_Span_parted : Stmt := inClass (topS 24) 1
theorem sc_Span_parted : FnScope ["self", "row", "rest", "line", "parts", "lead", "sums", "part", "one", "two"] ["self", "row"] (defScope s_Span_parted) := ⟨rfl, rfl, rfl, by decide +kernel, rfl, by decide +kernel, by decide +kernel⟩
abbrev s_Span_put : Stmt := inClass (topS 24) 2
theorem sc_Span_put : FnScope ["self", "row", "rest", "parts", "lead", "line", "sums", "one", "at", "two"] ["self", "row"] (defScope s_Span_put) := ⟨rfl, rfl, rfl, by decide +kernel, rfl, by decide +kernel, by decide +kernel⟩
abbrev s_Span_tells : Stmt := inClass (topS 24) 3
theorem sc_Span_tells : FnScope ["self", "row", "rest", "parts"] ["self", "row"] (defScope s_Span_tells) := ⟨rfl, rfl, rfl, by decide +kernel, rfl, by decide +kernel, by decide +kernel⟩
abbrev s_Span_many : Stmt := inClass (topS 24) 4
theorem sc_Span_many : FnScope ["self"] ["self"] (defScope s_Span_many) := ⟨rfl, rfl, rfl, by decide +kernel, rfl, by decide +kernel, by decide +kernel⟩
abbrev s_law_cell_at : Stmt := topS 26
theorem sc_law_cell_at : FnScope ["_law_script", "_law_k"] ["_law_script", "_law_k"] (defScope s_law_cell_at) := ⟨rfl, rfl, rfl, by decide +kernel, rfl, by decide +kernel, by decide +kernel⟩
abbrev s_law_whole : Stmt := topS 27
theorem sc_law_whole : FnScope ["_law_found"] ["_law_found"] (defScope s_law_whole) := ⟨rfl, rfl, rfl, by decide +kernel, rfl, by decide +kernel, by decide +kernel⟩
abbrev s_law_common : Stmt := topS 28
theorem sc_law_common : FnScope ["_law_one", "_law_other"] ["_law_one", "_law_other"] (defScope s_law_common) := ⟨rfl, rfl, rfl, by decide +kernel, rfl, by decide +kernel, by decide +kernel⟩
abbrev s_law_share : Stmt := topS 29
theorem sc_law_share : FnScope ["_law_top", "_law_bottom", "_law_common_here"] ["_law_top", "_law_bottom"] (defScope s_law_share) := ⟨rfl, rfl, rfl, by decide +kernel, rfl, by decide +kernel, by decide +kernel⟩
abbrev s_law_is : Stmt := topS 30
theorem sc_law_is : FnScope ["_law_found", "_law_due"] ["_law_found", "_law_due"] (defScope s_law_is) := ⟨rfl, rfl, rfl, by decide +kernel, rfl, by decide +kernel, by decide +kernel⟩
abbrev s_law_word_of : Stmt := topS 31
theorem sc_law_word_of : FnScope ["_law_e", "_law_found"] ["_law_e"] (defScope s_law_word_of) := ⟨rfl, rfl, rfl, by decide +kernel, rfl, by decide +kernel, by decide +kernel⟩
abbrev s_law_plus : Stmt := topS 32
theorem sc_law_plus : FnScope ["_law_one", "_law_other"] ["_law_one", "_law_other"] (defScope s_law_plus) := ⟨rfl, rfl, rfl, by decide +kernel, rfl, by decide +kernel, by decide +kernel⟩
abbrev s_law_times : Stmt := topS 33
theorem sc_law_times : FnScope ["_law_one", "_law_other"] ["_law_one", "_law_other"] (defScope s_law_times) := ⟨rfl, rfl, rfl, by decide +kernel, rfl, by decide +kernel, by decide +kernel⟩
abbrev s_law_rank : Stmt := topS 34
theorem sc_law_rank : FnScope ["_law_rows", "_law_row", "_law_left", "_law_found", "_law_place", "_law_heads", "_law_first", "_law_one", "_law_two"] ["_law_rows"] (defScope s_law_rank) := ⟨rfl, rfl, rfl, by decide +kernel, rfl, by decide +kernel, by decide +kernel⟩
abbrev s_law_tops_by : Stmt := topS 35
theorem sc_law_tops_by : FnScope ["_law_cell", "_law_size", "_law_kept", "_law_way", "_law_seeds", "_law_k", "_law_seed", "_law_one", "_law_two"] ["_law_cell", "_law_size", "_law_kept"] (defScope s_law_tops_by) := ⟨rfl, rfl, rfl, by decide +kernel, rfl, by decide +kernel, by decide +kernel⟩
abbrev s_law_told : Stmt := topS 36
theorem sc_law_told : FnScope ["_law_span", "_law_way", "_law_row", "_law_e"] ["_law_span", "_law_way", "_law_row"] (defScope s_law_told) := ⟨rfl, rfl, rfl, by decide +kernel, rfl, by decide +kernel, by decide +kernel⟩
abbrev s_law_wrong : Stmt := topS 37
theorem sc_law_wrong : FnScope ["_law_cell", "_law_row", "_law_some"] ["_law_cell", "_law_row"] (defScope s_law_wrong) := ⟨rfl, rfl, rfl, by decide +kernel, rfl, by decide +kernel, by decide +kernel⟩
abbrev s_law_sums : Stmt := topS 38
theorem sc_law_sums : FnScope ["_law_parts", "_law_kept", "_law_size", "_law_found", "_law_place", "_law_total", "_law_part", "_law_row"] ["_law_parts", "_law_kept", "_law_size"] (defScope s_law_sums) := ⟨rfl, rfl, rfl, by decide +kernel, rfl, by decide +kernel, by decide +kernel⟩
abbrev s_law_tells_good : Stmt := topS 39
theorem sc_law_tells_good : FnScope ["_law_found", "_law_tops", "_law_row", "_law_own", "_law_part"] ["_law_found", "_law_tops", "_law_row", "_law_own"] (defScope s_law_tells_good) := ⟨rfl, rfl, rfl, by decide +kernel, rfl, by decide +kernel, by decide +kernel⟩
abbrev s_law_deed : Stmt := topS 40
theorem sc_law_deed : FnScope ["_law_own", "_law_cell", "_law_size", "_law_tops", "_law_scale", "_law_row", "_law_span", "_law_handed", "_law_due", "_law_found", "_law_many", "_law_top"] ["_law_own", "_law_cell"] (defScope s_law_deed) := ⟨rfl, rfl, rfl, by decide +kernel, rfl, by decide +kernel, by decide +kernel⟩
abbrev s_law : Stmt := topS 41
theorem sc_law : FnScope ["_law_script", "_law_size", "_law_copies", "_law_owns", "_law_k", "_law_cell", "_law_pair"] ["_law_script"] (defScope s_law) := ⟨rfl, rfl, rfl, by decide +kernel, rfl, by decide +kernel, by decide +kernel⟩

structure Tx (K : PySem.W.Frag) (mg : Str → Option Value) (a_WeighError a_Nought a_NoText a_NoRow a_NoMachine a_NoWord a_OtherSigns a_TooMany a_Span a_NONE a_WHOLE : Addr) : Prop where
  d_is_whole : Df K mg "is_whole" ["thing"] s_is_whole
  d_divisor : Df K mg "divisor" ["one", "other"] s_divisor
  d_is_share : Df K mg "is_share" ["thing"] s_is_share
  d_share : Df K mg "share" ["top", "bottom"] s_share
  d_plus : Df K mg "plus" ["one", "other"] s_plus
  d_less : Df K mg "less" ["one", "other"] s_less
  d_times : Df K mg "times" ["one", "other"] s_times
  d_over : Df K mg "over" ["one", "other"] s_over
  d_is_row : Df K mg "is_row" ["thing", "size"] s_is_row
  d_lead_of : Df K mg "lead_of" ["row"] s_lead_of
  d_moved : Df K mg "moved" ["row", "part", "other"] s_moved
  d__law_cell_at : Df K mg "_law_cell_at" ["_law_script", "_law_k"] s_law_cell_at
  d__law_whole : Df K mg "_law_whole" ["_law_found"] s_law_whole
  d__law_common : Df K mg "_law_common" ["_law_one", "_law_other"] s_law_common
  d__law_share : Df K mg "_law_share" ["_law_top", "_law_bottom"] s_law_share
  d__law_is : Df K mg "_law_is" ["_law_found", "_law_due"] s_law_is
  d__law_word_of : Df K mg "_law_word_of" ["_law_e"] s_law_word_of
  d__law_plus : Df K mg "_law_plus" ["_law_one", "_law_other"] s_law_plus
  d__law_times : Df K mg "_law_times" ["_law_one", "_law_other"] s_law_times
  d__law_rank : Df K mg "_law_rank" ["_law_rows"] s_law_rank
  d__law_tops_by : Df K mg "_law_tops_by" ["_law_cell", "_law_size", "_law_kept"] s_law_tops_by
  d__law_told : Df K mg "_law_told" ["_law_span", "_law_way", "_law_row"] s_law_told
  d__law_wrong : Df K mg "_law_wrong" ["_law_cell", "_law_row"] s_law_wrong
  d__law_sums : Df K mg "_law_sums" ["_law_parts", "_law_kept", "_law_size"] s_law_sums
  d__law_tells_good : Df K mg "_law_tells_good" ["_law_found", "_law_tops", "_law_row", "_law_own"] s_law_tells_good
  d__law_deed : Df K mg "_law_deed" ["_law_own", "_law_cell"] s_law_deed
  d_law : Df K mg "law" ["_law_script"] s_law
  n_isinstance : mg "isinstance" = none
  n_int : mg "int" = none
  n_bool : mg "bool" = none
  n_tuple : mg "tuple" = none
  n_len : mg "len" = none
  n_abs : mg "abs" = none
  n_list : mg "list" = none
  n_all : mg "all" = none
  n_range : mg "range" = none
  n_zip : mg "zip" = none
  n_ValueError : mg "ValueError" = none
  m_WeighError : mg "WeighError" = some (.ref a_WeighError)
  m_Nought : mg "Nought" = some (.ref a_Nought)
  m_NoText : mg "NoText" = some (.ref a_NoText)
  m_NoRow : mg "NoRow" = some (.ref a_NoRow)
  m_NoMachine : mg "NoMachine" = some (.ref a_NoMachine)
  m_NoWord : mg "NoWord" = some (.ref a_NoWord)
  m_OtherSigns : mg "OtherSigns" = some (.ref a_OtherSigns)
  m_TooMany : mg "TooMany" = some (.ref a_TooMany)
  x_WeighError : PySem.W.excIn K a_WeighError [.type "ValueError", .type "Exception", .type "BaseException", .type "object"] "ValueError.__new__" = true
  k_WeighError : PySem.W.keepIn K (.ref a_WeighError) = true
  b_WeighError : PySem.W.subIn K (.ref a_WeighError) (.type "BaseException") = some true
  t_WeighError : PySem.W.typeIn K (.ref a_WeighError) = some (.type "type")
  x_Nought : PySem.W.excIn K a_Nought [.type "ValueError", .type "Exception", .type "BaseException", .type "object"] "ValueError.__new__" = true
  k_Nought : PySem.W.keepIn K (.ref a_Nought) = true
  b_Nought : PySem.W.subIn K (.ref a_Nought) (.type "BaseException") = some true
  t_Nought : PySem.W.typeIn K (.ref a_Nought) = some (.type "type")
  x_NoText : PySem.W.excIn K a_NoText [.type "ValueError", .type "Exception", .type "BaseException", .type "object"] "ValueError.__new__" = true
  k_NoText : PySem.W.keepIn K (.ref a_NoText) = true
  b_NoText : PySem.W.subIn K (.ref a_NoText) (.type "BaseException") = some true
  t_NoText : PySem.W.typeIn K (.ref a_NoText) = some (.type "type")
  x_NoRow : PySem.W.excIn K a_NoRow [.type "ValueError", .type "Exception", .type "BaseException", .type "object"] "ValueError.__new__" = true
  k_NoRow : PySem.W.keepIn K (.ref a_NoRow) = true
  b_NoRow : PySem.W.subIn K (.ref a_NoRow) (.type "BaseException") = some true
  t_NoRow : PySem.W.typeIn K (.ref a_NoRow) = some (.type "type")
  x_NoMachine : PySem.W.excIn K a_NoMachine [.type "ValueError", .type "Exception", .type "BaseException", .type "object"] "ValueError.__new__" = true
  k_NoMachine : PySem.W.keepIn K (.ref a_NoMachine) = true
  b_NoMachine : PySem.W.subIn K (.ref a_NoMachine) (.type "BaseException") = some true
  t_NoMachine : PySem.W.typeIn K (.ref a_NoMachine) = some (.type "type")
  x_NoWord : PySem.W.excIn K a_NoWord [.type "ValueError", .type "Exception", .type "BaseException", .type "object"] "ValueError.__new__" = true
  k_NoWord : PySem.W.keepIn K (.ref a_NoWord) = true
  b_NoWord : PySem.W.subIn K (.ref a_NoWord) (.type "BaseException") = some true
  t_NoWord : PySem.W.typeIn K (.ref a_NoWord) = some (.type "type")
  x_OtherSigns : PySem.W.excIn K a_OtherSigns [.type "ValueError", .type "Exception", .type "BaseException", .type "object"] "ValueError.__new__" = true
  k_OtherSigns : PySem.W.keepIn K (.ref a_OtherSigns) = true
  b_OtherSigns : PySem.W.subIn K (.ref a_OtherSigns) (.type "BaseException") = some true
  t_OtherSigns : PySem.W.typeIn K (.ref a_OtherSigns) = some (.type "type")
  x_TooMany : PySem.W.excIn K a_TooMany [.type "ValueError", .type "Exception", .type "BaseException", .type "object"] "ValueError.__new__" = true
  k_TooMany : PySem.W.keepIn K (.ref a_TooMany) = true
  b_TooMany : PySem.W.subIn K (.ref a_TooMany) (.type "BaseException") = some true
  t_TooMany : PySem.W.typeIn K (.ref a_TooMany) = some (.type "type")
  em_NoRow : PySem.W.exmOne K (.ref a_NoRow) (.ref a_WeighError) = some true
  ge_NoRow : ExcC K a_NoRow
  is_NoRow_Nought : PySem.W.kitOne K (.ref a_NoRow) (.ref a_Nought) = some false
  is_NoRow_NoText : PySem.W.kitOne K (.ref a_NoRow) (.ref a_NoText) = some false
  is_NoRow_NoRow : PySem.W.kitOne K (.ref a_NoRow) (.ref a_NoRow) = some true
  is_NoRow_NoMachine : PySem.W.kitOne K (.ref a_NoRow) (.ref a_NoMachine) = some false
  is_NoRow_NoWord : PySem.W.kitOne K (.ref a_NoRow) (.ref a_NoWord) = some false
  is_NoRow_OtherSigns : PySem.W.kitOne K (.ref a_NoRow) (.ref a_OtherSigns) = some false
  is_NoRow_TooMany : PySem.W.kitOne K (.ref a_NoRow) (.ref a_TooMany) = some false
  iv_NoRow : PySem.W.kitOne K (.ref a_NoRow) (.type "ValueError") = some true
  m_Span : mg "Span" = some (.ref a_Span)
  cl_Span : Cls K a_Span
  ti_Span : Tin K a_Span
  na_Span_size : NoAttr K a_Span "size"
  na_Span_lines : NoAttr K a_Span "lines"
  i_Span : Di K a_Span "__init__" "Span.__init__" ["self", "size"] s_SpanD_initD
  d_Span_parted : Dm K a_Span "parted" "Span.parted" ["self", "row"] s_Span_parted
  d_Span_put : Dm K a_Span "put" "Span.put" ["self", "row"] s_Span_put
  d_Span_tells : Dm K a_Span "tells" "Span.tells" ["self", "row"] s_Span_tells
  d_Span_many : Dm K a_Span "many" "Span.many" ["self"] s_Span_many
  m_NONE : mg "NONE" = some (.ref a_NONE)
  q_NONE : ∀ H, SqT K H a_NONE [.int 0, .int 1]
  m_WHOLE : mg "WHOLE" = some (.ref a_WHOLE)
  q_WHOLE : ∀ H, SqT K H a_WHOLE [.int 1, .int 1]
section
variable {P : Program} {w : World} {K : PySem.W.Frag} {mg : Str → Option Value} {base : Heap} {a_WeighError a_Nought a_NoText a_NoRow a_NoMachine a_NoWord a_OtherSigns a_TooMany a_Span a_NONE a_WHOLE : Addr}
/-! ### shares: divisor, is_whole, is_share, share -/
theorem sd_whileE {K : PySem.W.Frag} {E : XK} {t : TT} {ts : TS} {Γ : Gam} {o : Oc} (h : ∃ n, LoopW K E t ts n Γ o) : Sd K E (tWhile t ts) Γ o := by
  obtain ⟨n, h⟩ := h
  exact sd_while h
def Sdiv : List D → D → Prop := fun ds d => ∃ a b : Nat, ds = [.int a, .int b] ∧ d = .int (Nat.gcd a b : Nat)
theorem ok_divisor (T : Tx K mg a_WeighError a_Nought a_NoText a_NoRow a_NoMachine a_NoWord a_OtherSigns a_TooMany a_Span a_NONE a_WHOLE) : Cl P w K mg base CX0 1 "divisor" (spR K Sdiv) := by
  refine clR T.d_divisor sc_divisor (fun ds d h => by obtain ⟨a, b, rfl, _⟩ := h; rfl) fun f cdv A outer s H E hr => ?_
  refine ⟨_, (pss_cons (ps_while PassesOwn.never (pt_cmpR op_gt (pv 1) pe_int (nomark _))
  (pss_cons (ps_set (i := 2) sc_divisor.nd rfl (by first | exact Or.inl rfl | exact Or.inr rfl) (pe_op op_mod (pv 0) (pv 1)))
  (pss_cons (ps_set (i := 0) sc_divisor.nd rfl (by first | exact Or.inl rfl | exact Or.inr rfl) (pv 1))
  (pss_one (ps_set (i := 1) sc_divisor.nd rfl (by first | exact Or.inl rfl | exact Or.inr rfl) (pv 2))))))
  (pss_one (ps_ret (pv 0)))), fun ds d h => ?_⟩
  obtain ⟨a, b, rfl, rfl⟩ := h
  refine sd_seq (Γ1 := [.fz (.int (Nat.gcd a b : Nat)), .fz (.int 0), .no]) (sd_whileE ?_) (sd_ret (ed_fz 0 rfl))
  show ∃ n, LoopW K E0 _ _ n [.fz (.int a), .fz (.int b), .no] _
  induction b using Nat.strongRecOn generalizing a with
  | _ b ih =>
    have test : Et K (tTest (tOp (rI0 fun i j => .bl (decide (j < i))) (tVar 1) (tC (.int 0)))) [.fz (.int a), .fz (.int b), .no] (decide ((0 : Int) < b)) := et_test (ed_op (ed_fz 1 rfl) (ed_int 0) r2_gt)
    by_cases hb : b = 0
    · subst hb
      rw [Nat.gcd_zero_right]
      exact ⟨0, .done test⟩
    · obtain ⟨n, hn⟩ := ih (a % b) (Nat.mod_lt _ (Nat.pos_of_ne_zero hb)) b
      rw [show Nat.gcd b (a % b) = Nat.gcd a b by rw [Nat.gcd_comm b, ← Nat.gcd_rec, Nat.gcd_comm]] at hn
      refine ⟨n + 1, .step (et_is test (decide_eq_true (by omega))) ?_ hn⟩
      refine Sd.lpLe (Γ1 := [.fz (.int b), .fz (.int ((a : Int) % b)), .fz (.int ((a : Int) % b))]) (Sd.toLp ?_) ?_
      · exact sd_seq (sd_set 2 (ed_op (ed_fz 0 rfl) (ed_fz 1 rfl) (r2_mod (by omega)))) (sd_seq (sd_set 0 (ed_fz 1 rfl)) (sd_set 1 (ed_fz 2 rfl)))
      · exact .cons (.inr rfl) (.cons (.inr rfl) (.cons (.inl rfl) .nil))
def isInt : D → Bool
  | .int _ => true
  | _ => false
def Swh : List D → D → Prop := fun ds d => ∃ x T, ds = [x] ∧ tyD x = some T ∧ d = .bl (isInt x)
theorem isi_kind (x : D) {T : String} (h : tyD x = some T) : kitB T "int" = some (isInt x || T == "bool") ∧ kitB T "bool" = some (T == "bool") ∧ kitB T "tuple" = some (T == "tuple") ∧ isInt x = (T == "int") := by
  cases x <;> first | (cases h; done) | (cases h; refine ⟨?_, ?_, ?_, ?_⟩ <;> first | decide +kernel | (simp only [isInt]; decide +kernel))
def isSh : D → Bool
  | .tup [.int a, .int b] => decide (0 < b) && decide (Nat.gcd a.natAbs b.toNat = 1)
  | _ => false
def Sis : List D → D → Prop := fun ds d => ∃ x, ds = [x] ∧ (∃ T, tyD x = some T) ∧ (∀ a b, x = .tup [a, b] → (∃ T, tyD a = some T) ∧ ∃ T, tyD b = some T) ∧ d = .bl (isSh x)
/-- the share of two whole numbers, the bottom not nought -/
def cmn (t b : Int) : Int := if b < 0 then 0 - (Nat.gcd t.natAbs b.natAbs : Nat) else (Nat.gcd t.natAbs b.natAbs : Nat)
def mkS (t b : Int) : Int × Int := (t.fdiv (cmn t b), b.fdiv (cmn t b))
abbrev sh (p : Int × Int) : D := .tup [.int p.1, .int p.2]
theorem cmn_ne {t b : Int} (hb : b ≠ 0) : cmn t b ≠ 0 := by
  have h : 0 < Nat.gcd t.natAbs b.natAbs := Nat.gcd_pos_of_pos_right _ (by omega)
  unfold cmn
  split <;> omega
theorem cmn_fd {t b x : Int} (hb : b ≠ 0) (h : b.natAbs.log2 < 9000) : CFd x (cmn t b) := by
  refine ⟨cmn_ne hb, ?_⟩
  have e : (cmn t b).natAbs = Nat.gcd t.natAbs b.natAbs := by unfold cmn; split <;> omega
  rw [e]
  have le : Nat.gcd t.natAbs b.natAbs ≤ b.natAbs := Nat.gcd_le_right _ (by omega)
  have hp : 0 < Nat.gcd t.natAbs b.natAbs := Nat.gcd_pos_of_pos_right _ (by omega)
  have h2 := (Nat.log2_lt (by omega)).mp h
  exact (Nat.log2_lt (by omega)).mpr (Nat.lt_of_le_of_lt le h2)
def Ssh : List D → D → Prop := fun ds d => ∃ t b : Int, ds = [.int t, .int b] ∧ b ≠ 0 ∧ b.natAbs.log2 < 9000 ∧ d = sh (mkS t b)
def Tsh (C : Addr) : List D → Addr → Prop := fun ds c => ∃ t : Int, ds = [.int t, .int 0] ∧ c = C
theorem ok_share (T : Tx K mg a_WeighError a_Nought a_NoText a_NoRow a_NoMachine a_NoWord a_OtherSigns a_TooMany a_Span a_NONE a_WHOLE) (c_divisor : Cl P w K mg base CX0 1 "divisor" (spR K Sdiv)) : Cl P w K mg base (L2.CX P w) 2 "share" (spX K Ssh (Tsh a_Nought)) := by
  refine clX T.d_share sc_share (fun ds d h => by obtain ⟨a, b, rfl, _⟩ := h; rfl) (fun ds d h => by obtain ⟨a, rfl, _⟩ := h; rfl) fun f cdv A outer s H E hr => ?_
  refine ⟨_, (pss_cons (ps_if (pt_cmpR (op_eqD hr.units) (pv 1) pe_int (nomark _))
  (pss_one (ps_raise rfl (takes_of rfl rfl rfl rfl) (pmk_own PySem.F.excBase_ValueError T.x_Nought T.m_Nought T.k_Nought (raises_own T.b_Nought T.t_Nought) rfl)))
  pss_nil)
  (pss_cons (ps_set (i := 2) sc_share.nd rfl (by first | exact Or.inl rfl | exact Or.inr rfl) (pcl c_divisor hr (by decide) rfl (pa_cons (pe_callB call_abs (by rfl) T.n_abs bt_abs (pa_cons (pv 0) pa_nil)) (pa_cons (pe_callB call_abs (by rfl) T.n_abs bt_abs (pa_cons (pv 1) pa_nil)) pa_nil))))
  (pss_cons (ps_if (pt_cmpR opLt (pv 1) pe_int (nomark _))
  (pss_one (ps_set (i := 2) sc_share.nd rfl (by first | exact Or.inl rfl | exact Or.inr rfl) (pe_op op_sub pe_int (pv 2))))
  pss_nil)
  (pss_one (ps_ret (pe_tup (pa_cons (pe_op opFd (pv 0) (pv 2)) (pa_cons (pe_op opFd (pv 1) (pv 2)) pa_nil)))))))), fun ds d h => ?_, fun ds C h => ?_⟩
  · obtain ⟨t, b, rfl, hb, hl, rfl⟩ := h
    have ab : ∀ {i : Nat} {x : Int} {Γ : Gam}, Γ[i]? = some (.fz (.int x)) → Ed K (tCB _ (tCons (tVar i) tNil)) Γ (.int x.natAbs) := fun {i x Γ} h => ed_cb (ea_cons (ed_fz i h) ea_nil) rc_abs
    refine sd_seq (Γ1 := [.fz (.int t), .fz (.int b), .no]) (sd_ifF (et_is (et_test (ed_op (ed_fz 1 rfl) (ed_int 0) r2_eqI)) (decide_eq_false hb)) sd_next) ?_
    refine sd_seq (Γ1 := [.fz (.int t), .fz (.int b), .fz (.int (Nat.gcd t.natAbs b.natAbs : Nat))]) (sd_set 2 (ed_call (ea_cons (ab rfl) (ea_cons (ab rfl) ea_nil)) ⟨_, _, rfl, rfl⟩)) ?_
    refine sd_seq (Γ1 := [.fz (.int t), .fz (.int b), .fz (.int (cmn t b))]) (sd_if (et_test (ed_op (ed_fz 1 rfl) (ed_int 0) r2_ltI)) (fun h => ?_) fun h => ?_) ?_
    · have e : cmn t b = 0 - (Nat.gcd t.natAbs b.natAbs : Nat) := if_pos (of_decide_eq_true h)
      rw [e]
      exact sd_set 2 (ed_op (ed_int 0) (ed_fz 2 rfl) r2_subI)
    · have e : cmn t b = (Nat.gcd t.natAbs b.natAbs : Nat) := if_neg (of_decide_eq_false h)
      rw [e]
      exact sd_next
    · exact sd_ret (ed_tup (ea_cons (ed_op (ed_fz 0 rfl) (ed_fz 2 rfl) (r2_fd (cmn_fd hb hl))) (ea_cons (ed_op (ed_fz 1 rfl) (ed_fz 2 rfl) (r2_fd (cmn_fd hb hl))) ea_nil)))
  · obtain ⟨t, rfl, rfl⟩ := h
    exact sd_stop (sd_ifT (et_is (et_test (ed_op (ed_fz 1 rfl) (ed_int 0) r2_eqI)) (decide_eq_true rfl)) sd_raise) rfl

theorem ok_is_whole (T : Tx K mg a_WeighError a_Nought a_NoText a_NoRow a_NoMachine a_NoWord a_OtherSigns a_TooMany a_Span a_NONE a_WHOLE) : Cl P w K mg base CX0 1 "is_whole" (spR K Swh) := by
  refine clR T.d_is_whole sc_is_whole (fun ds d h => by obtain ⟨a, b, rfl, _⟩ := h; rfl) fun f cdv A outer s H E hr => ?_
  refine ⟨_, (pss_one (ps_ret (pe_and (pe_callB call_isi (by rfl) T.n_isinstance bt_isinstance (pa_cons (pv 0) (pa_cons (pe_bltn (v := .ty "int") (by rfl) T.n_int bt_int rfl) pa_nil))) (pe_one (pe_not (pe_callB call_isi (by rfl) T.n_isinstance bt_isinstance (pa_cons (pv 0) (pa_cons (pe_bltn (v := .ty "bool") (by rfl) T.n_bool bt_bool rfl) pa_nil)))))))), fun ds d h => ?_⟩
  obtain ⟨x, U, rfl, hx, rfl⟩ := h
  obtain ⟨h1, h2, h3, h4⟩ := isi_kind x hx
  refine sd_ret (ed_is (ed_andV (ed_cb (ea_cons (ed_fz 0 rfl) (ea_cons (ed_ty _) ea_nil)) (rc_isi hx h1)) fun _ => ed_notV (ed_cb (ea_cons (ed_fz 0 rfl) (ea_cons (ed_ty _) ea_nil)) (rc_isi hx h2))) ?_)
  rw [h4]
  by_cases e : U = "int"
  · subst e; rfl
  · by_cases e2 : U = "bool"
    · subst e2; rfl
    · rw [beq_eq_false_iff_ne.mpr e, beq_eq_false_iff_ne.mpr e2]; rfl

theorem ok_is_share (T : Tx K mg a_WeighError a_Nought a_NoText a_NoRow a_NoMachine a_NoWord a_OtherSigns a_TooMany a_Span a_NONE a_WHOLE) (c_is_whole : Cl P w K mg base CX0 1 "is_whole" (spR K Swh)) (c_divisor : Cl P w K mg base CX0 1 "divisor" (spR K Sdiv)) : Cl P w K mg base CX0 2 "is_share" (spR K Sis) := by
  refine clR T.d_is_share sc_is_share (fun ds d h => by obtain ⟨a, rfl, _⟩ := h; rfl) fun f cdv A outer s H E hr => ?_
  refine ⟨_, (pss_cons (ps_if (PW.pt (pw_or (pt_not (pt_val (pe_callB call_isi (by rfl) T.n_isinstance bt_isinstance (pa_cons (pv 0) (pa_cons (pe_bltn (v := .ty "tuple") (by rfl) T.n_tuple bt_tuple rfl) pa_nil))))) (pw_or (pt_cmpR (op_neD hr.units) (pe_callB callLen (by rfl) T.n_len bt_len (pa_cons (pv 0) pa_nil)) pe_int (nomark _)) (pw_or (pt_not (pt_val (pcl c_is_whole hr (by decide) rfl (pa_cons (pe_ix ix_seq (pv 0) pe_int (fun _ _ => rfl)) pa_nil)))) (pw_or1 (pt_not (pt_val (pcl c_is_whole hr (by decide) rfl (pa_cons (pe_ix ix_seq (pv 0) pe_int (fun _ _ => rfl)) pa_nil)))))))))
  (pss_one (ps_ret pe_bl))
  pss_nil)
  (pss_one (ps_ret (pe_and (pe_cmpR op_gt (pe_ix ix_seq (pv 0) pe_int (fun _ _ => rfl)) pe_int (nomark _)) (pe_one (pe_cmpR (op_eqD hr.units) (pcl c_divisor hr (by decide) rfl (pa_cons (pe_callB call_abs (by rfl) T.n_abs bt_abs (pa_cons (pe_ix ix_seq (pv 0) pe_int (fun _ _ => rfl)) pa_nil)) (pa_cons (pe_ix ix_seq (pv 0) pe_int (fun _ _ => rfl)) pa_nil))) pe_int (nomark _))))))), fun ds d h => ?_⟩
  obtain ⟨x, rfl, ⟨U, hx⟩, hab, rfl⟩ := h
  have isw : ∀ {te : TE} {Γ : Gam} {y : D}, (∃ T, tyD y = some T) → Ed K te Γ y → Ed K (tCall (spR K Swh) [] E0 (tCons te tNil)) Γ (.bl (isInt y)) := fun {te Γ y} ⟨T, h⟩ he => ed_call (ea_cons he ea_nil) ⟨y, T, rfl, h, rfl⟩
  have ix : ∀ {es : List D} {i : Int} {y : D}, atI es i = some y → Ed K (tOp (rIx K) (tVar 0) (tC (.int i))) [.fz (.tup es)] y := fun {es i y} h => ed_op (ed_fz 0 rfl) (ed_int i) (r2_ixT h)
  have isT : ∀ es : List D, Et K (tNot (tB (tCB (rIsi K) (tCons (tVar 0) (tCons (tC (.ty "tuple")) tNil))))) [.fz (.tup es)] false := fun es => et_nF (et_B (ed_cb (ea_cons (ed_fz 0 rfl) (ea_cons (ed_ty _) ea_nil)) (rc_isi rfl (by decide +kernel))))
  have len : ∀ es : List D, Et K (tTest (tOp (rNeD K) (tCB (rLenA K) (tCons (tVar 0) tNil)) (tC (.int 2)))) [.fz (.tup es)] (!decide ((es.length : Int) = 2)) := fun es => et_test (ed_op (ed_cb (ea_cons (ed_fz 0 rfl) ea_nil) rc_lenT) (ed_int 2) r2_neI)
  cases x with
  | tup es =>
    show Sd K E0 _ [.fz (.tup es)] _
    by_cases hl : es.length = 2
    · obtain ⟨a, b, rfl⟩ : ∃ a b, es = [a, b] := by
        match es, hl with
        | [a, b], _ => exact ⟨a, b, rfl⟩
      obtain ⟨ha, hb⟩ := hab a b rfl
      have l2 := et_is (len [a, b]) (show (!decide ((([a, b] : List D).length : Int) = 2)) = false from rfl)
      have wa := isw ha (ix (es := [a, b]) (i := 0) (y := a) rfl)
      have wb := isw hb (ix (es := [a, b]) (i := 1) (y := b) rfl)
      cases qa : isInt a with
      | false =>
        rw [qa] at wa
        have e : isSh (.tup [a, b]) = false := by cases a <;> first | rfl | cases qa
        rw [e]
        exact sd_stop (sd_ifT (et_orF (isT _) (et_orF l2 (et_orT (et_nT (et_B wa))))) (sd_ret (ed_bl false))) rfl
      | true =>
        rw [qa] at wa
        cases qb : isInt b with
        | false =>
          rw [qb] at wb
          have e : isSh (.tup [a, b]) = false := by cases a <;> cases b <;> first | rfl | cases qb
          rw [e]
          exact sd_stop (sd_ifT (et_orF (isT _) (et_orF l2 (et_orF (et_nF (et_B wa)) (et_nT (et_B wb))))) (sd_ret (ed_bl false))) rfl
        | true =>
          rw [qb] at wb
          obtain ⟨i, rfl⟩ : ∃ i, a = .int i := by cases a <;> first | exact ⟨_, rfl⟩ | cases qa
          obtain ⟨j, rfl⟩ : ∃ j, b = .int j := by cases b <;> first | exact ⟨_, rfl⟩ | cases qb
          refine sd_seq (Γ1 := [.fz (.tup [.int i, .int j])]) (sd_ifF (et_orF (isT _) (et_orF l2 (et_orF (et_nF (et_B wa)) (et_nF (et_B wb))))) sd_next) ?_
          refine sd_ret (ed_is (ed_andV (ed_op (ix rfl) (ed_int 0) r2_gt) fun h => ed_op (ed_call (ea_cons (ed_cb (ea_cons (ix rfl) ea_nil) rc_abs) (ea_cons (ix rfl) ea_nil)) ⟨i.natAbs, j.toNat, ?_, rfl⟩) (ed_int 1) r2_eqI) ?_)
          · have h' : 0 < j := of_decide_eq_true h
            rw [Int.toNat_of_nonneg (by omega)]
          · show D.bl (_ && _) = D.bl (_ && _)
            congr 2
            exact decide_eq_decide.mpr (by omega)
    · have e : isSh (.tup es) = false := by
        match es, hl with
        | [], _ => rfl
        | [a], _ => cases a <;> rfl
        | a :: b :: c :: r, _ => cases a <;> first | rfl | (cases b <;> rfl)
        | [a, b], h => exact absurd rfl h
      rw [e]
      exact sd_stop (sd_ifT (et_orF (isT _) (et_orT (et_is (len es) (by rw [decide_eq_false (by omega)]; rfl)))) (sd_ret (ed_bl false))) rfl
  | _ => first
    | (cases hx; done)
    | (cases hx; exact sd_stop (sd_ifT (et_orT (et_nT (et_B (ed_cb (ea_cons (ed_fz 0 rfl) (ea_cons (ed_ty _) ea_nil)) (rc_isi rfl (by decide +kernel)))))) (sd_ret (ed_bl false))) rfl)


/-! ### the mathematics of shares -/
theorem log2_mono {n m : Nat} (h : n ≤ m) : n.log2 ≤ m.log2 := by
  by_cases h0 : n = 0
  · subst h0; simp
  · have : n < 2 ^ (m.log2 + 1) := Nat.lt_of_le_of_lt h ((Nat.log2_lt (by omega)).mp (Nat.lt_succ_self _))
    have := (Nat.log2_lt h0).mpr this
    omega
theorem cmn_natAbs (t b : Int) : (cmn t b).natAbs = Nat.gcd t.natAbs b.natAbs := by unfold cmn; split <;> omega
theorem cmn_dvd (t b : Int) : cmn t b ∣ t ∧ cmn t b ∣ b := by
  rw [← Int.natAbs_dvd_natAbs, ← Int.natAbs_dvd_natAbs, cmn_natAbs]
  exact ⟨Nat.gcd_dvd_left _ _, Nat.gcd_dvd_right _ _⟩
theorem mkS_mul {t b : Int} (hb : b ≠ 0) : t = cmn t b * (mkS t b).1 ∧ b = cmn t b * (mkS t b).2 := by
  obtain ⟨h1, h2⟩ := cmn_dvd t b
  unfold mkS
  constructor
  · show t = cmn t b * t.fdiv (cmn t b)
    rw [Int.fdiv_eq_ediv_of_dvd h1, Int.mul_ediv_cancel' h1]
  · show b = cmn t b * b.fdiv (cmn t b)
    rw [Int.fdiv_eq_ediv_of_dvd h2, Int.mul_ediv_cancel' h2]
theorem cmn_sign {t b : Int} (hb : b ≠ 0) : 0 < cmn t b * b := by
  have hg : 0 < Nat.gcd t.natAbs b.natAbs := Nat.gcd_pos_of_pos_right _ (by omega)
  unfold cmn
  split
  · exact Int.mul_pos_of_neg_of_neg (by omega) (by omega)
  · exact Int.mul_pos (by omega) (by omega)
theorem mkS_pos {t b : Int} (hb : b ≠ 0) : 0 < (mkS t b).2 := by
  have h1 := (mkS_mul (t := t) hb).2
  have h2 := cmn_sign (t := t) hb
  have h3 : 0 < cmn t b * cmn t b * (mkS t b).2 := by
    rw [Int.mul_assoc, ← h1]; exact h2
  have h4 : 0 < cmn t b * cmn t b := by
    have := cmn_ne (t := t) hb
    rcases Int.lt_or_gt_of_ne this with h | h
    · exact Int.mul_pos_of_neg_of_neg h h
    · exact Int.mul_pos h h
  rcases Int.lt_trichotomy (mkS t b).2 0 with h | h | h
  · have := Int.mul_neg_of_pos_of_neg h4 h; omega
  · rw [h, Int.mul_zero] at h3; omega
  · exact h
theorem mkS_cop {t b : Int} (hb : b ≠ 0) : Nat.gcd (mkS t b).1.natAbs (mkS t b).2.natAbs = 1 := by
  obtain ⟨h1, h2⟩ := mkS_mul (t := t) hb
  have hg : 0 < Nat.gcd t.natAbs b.natAbs := Nat.gcd_pos_of_pos_right _ (by omega)
  have e1 : t.natAbs = Nat.gcd t.natAbs b.natAbs * (mkS t b).1.natAbs := by
    have := congrArg Int.natAbs h1
    rw [Int.natAbs_mul, cmn_natAbs] at this
    exact this
  have e2 : b.natAbs = Nat.gcd t.natAbs b.natAbs * (mkS t b).2.natAbs := by
    have := congrArg Int.natAbs h2
    rw [Int.natAbs_mul, cmn_natAbs] at this
    exact this
  have e3 : Nat.gcd t.natAbs b.natAbs = Nat.gcd t.natAbs b.natAbs * Nat.gcd (mkS t b).1.natAbs (mkS t b).2.natAbs := by
    rw [← Nat.gcd_mul_left, ← e1, ← e2]
  have := Nat.eq_of_mul_eq_mul_left hg (show Nat.gcd t.natAbs b.natAbs * 1 = Nat.gcd t.natAbs b.natAbs * Nat.gcd (mkS t b).1.natAbs (mkS t b).2.natAbs by rw [Nat.mul_one]; exact e3)
  exact this.symm
theorem mkS_cross {t b : Int} (hb : b ≠ 0) : (mkS t b).1 * b = t * (mkS t b).2 := by
  obtain ⟨h1, h2⟩ := mkS_mul (t := t) hb
  have e : (mkS t b).1 * b = (mkS t b).1 * (cmn t b * (mkS t b).2) := congrArg _ h2
  have e2 : t * (mkS t b).2 = cmn t b * (mkS t b).1 * (mkS t b).2 := congrArg (· * (mkS t b).2) h1
  rw [e, e2, ← Int.mul_assoc, Int.mul_comm (mkS t b).1]
theorem mkS_good {t b : Int} (hb : b ≠ 0) : isSh (sh (mkS t b)) = true := by
  have h1 := mkS_pos (t := t) hb
  have h2 := mkS_cop (t := t) hb
  have e : (mkS t b).2.toNat = (mkS t b).2.natAbs := by omega
  show (decide (0 < (mkS t b).2) && decide (Nat.gcd (mkS t b).1.natAbs (mkS t b).2.toNat = 1)) = true
  rw [e, decide_eq_true h1, decide_eq_true h2]; rfl
/-- smaller than at first -/
theorem mkS_le {t b : Int} (hb : b ≠ 0) : (mkS t b).1.natAbs ≤ t.natAbs ∧ (mkS t b).2.natAbs ≤ b.natAbs := by
  obtain ⟨h1, h2⟩ := mkS_mul (t := t) hb
  have hc := cmn_ne (t := t) hb
  have e1 := congrArg Int.natAbs h1
  have e2 := congrArg Int.natAbs h2
  rw [Int.natAbs_mul] at e1 e2
  have : 1 ≤ (cmn t b).natAbs := by omega
  constructor
  · rw [e1]; exact Nat.le_mul_of_pos_left _ this
  · rw [e2]; exact Nat.le_mul_of_pos_left _ this

/-! ### plus, less, times, over -/
def LIM : Nat := 8990
theorem log_lim {x : Int} {n : Nat} (h : x.natAbs < 2 ^ n) (h0 : 0 < n) (hn : n ≤ LIM) : x.natAbs.log2 < 9000 := Nat.lt_of_lt_of_le (log2_le h h0) (Nat.le_trans hn (by decide))
def Sz (n : Nat) (p : Int × Int) : Prop := 0 < n ∧ p.1.natAbs < 2 ^ n ∧ p.2.natAbs < 2 ^ n
theorem mul_lt {x y : Int} {n m : Nat} (hx : x.natAbs < 2 ^ n) (hy : y.natAbs < 2 ^ m) : (x * y).natAbs < 2 ^ (n + m) := by
  rw [Int.natAbs_mul, Nat.pow_add]
  exact Nat.mul_lt_mul'' hx hy
theorem big_of {x y : Int} {n m : Nat} (hx : x.natAbs < 2 ^ n) (hy : y.natAbs < 2 ^ m) (h0 : 0 < n) (h1 : 0 < m) (h : n + m ≤ LIM) : CBig x y := CBig.of hx hy h0 h1 (Nat.le_trans h (by decide))
def Two (ds : List D) (p q : Int × Int) : Prop := ds = [sh p, sh q] ∧ p.2 ≠ 0 ∧ q.2 ≠ 0 ∧ ∃ n m, Sz n p ∧ Sz m q ∧ n + m ≤ LIM
def plusS (p q : Int × Int) : Int × Int := mkS (p.1 * q.2 + q.1 * p.2) (p.2 * q.2)
def lessS (p q : Int × Int) : Int × Int := mkS (p.1 * q.2 - q.1 * p.2) (p.2 * q.2)
def timesS (p q : Int × Int) : Int × Int := mkS (p.1 * q.1) (p.2 * q.2)
def overS (p q : Int × Int) : Int × Int := mkS (p.1 * q.2) (p.2 * q.1)
def Spl : List D → D → Prop := fun ds d => ∃ p q, Two ds p q ∧ d = sh (plusS p q)
def Sle : List D → D → Prop := fun ds d => ∃ p q, Two ds p q ∧ d = sh (lessS p q)
def Sti : List D → D → Prop := fun ds d => ∃ p q, Two ds p q ∧ d = sh (timesS p q)
def Sov : List D → D → Prop := fun ds d => ∃ p q, Two ds p q ∧ q.1 ≠ 0 ∧ d = sh (overS p q)
def Tov (C : Addr) : List D → Addr → Prop := fun ds c => ∃ p q, Two ds p q ∧ q.1 = 0 ∧ c = C
section
variable {K : PySem.W.Frag} {Γ : Gam} {p q : Int × Int}
theorem ix0 {te : TE} (h : Ed K te Γ (sh p)) : Ed K (tOp (rIx K) te (tC (.int 0))) Γ (.int p.1) := ed_op h (ed_int 0) (r2_ixT rfl)
theorem ix1 {te : TE} (h : Ed K te Γ (sh p)) : Ed K (tOp (rIx K) te (tC (.int 1))) Γ (.int p.2) := ed_op h (ed_int 1) (r2_ixT rfl)
end
theorem two_len {ds : List D} {p q : Int × Int} (h : Two ds p q) : ds.length = 2 := by rw [h.1]; rfl
theorem two_den {ds : List D} {p q : Int × Int} (h : Two ds p q) : p.2 * q.2 ≠ 0 ∧ (p.2 * q.2).natAbs.log2 < 9000 := by
  obtain ⟨_, h1, h2, n, m, z1, z2, z⟩ := h
  exact ⟨Int.mul_ne_zero h1 h2, log_lim (mul_lt z1.2.2 z2.2.2) (by have := z1.1; omega) z⟩
theorem ok_plus (T : Tx K mg a_WeighError a_Nought a_NoText a_NoRow a_NoMachine a_NoWord a_OtherSigns a_TooMany a_Span a_NONE a_WHOLE) (c_share : Cl P w K mg base (L2.CX P w) 2 "share" (spX K Ssh (Tsh a_Nought))) : Cl P w K mg base CX0 3 "plus" (spR K Spl) := by
  refine clR T.d_plus sc_plus (fun ds d h => by obtain ⟨p, q, h, _⟩ := h; exact two_len h) fun f cdv A outer s H E hr => ?_
  refine ⟨_, (pss_one (ps_ret (pclX c_share hr (by decide) rfl (pa_cons (pe_op opAdd (pe_op opMul (pe_ix ix_seq (pv 0) pe_int (fun _ _ => rfl)) (pe_ix ix_seq (pv 1) pe_int (fun _ _ => rfl))) (pe_op opMul (pe_ix ix_seq (pv 1) pe_int (fun _ _ => rfl)) (pe_ix ix_seq (pv 0) pe_int (fun _ _ => rfl)))) (pa_cons (pe_op opMul (pe_ix ix_seq (pv 0) pe_int (fun _ _ => rfl)) (pe_ix ix_seq (pv 1) pe_int (fun _ _ => rfl))) pa_nil))))), fun ds d h => ?_⟩
  obtain ⟨p, q, h, rfl⟩ := h
  obtain ⟨d1, d2⟩ := two_den h
  obtain ⟨rfl, h1, h2, n, m, z1, z2, z⟩ := h
  exact sd_ret (ed_callX (ea_cons (ed_op (ed_op (ix0 (ed_fz 0 rfl)) (ix1 (ed_fz 1 rfl)) (r2_mulI (big_of z1.2.1 z2.2.2 z1.1 z2.1 z))) (ed_op (ix0 (ed_fz 1 rfl)) (ix1 (ed_fz 0 rfl)) (r2_mulI (big_of z2.2.1 z1.2.2 z2.1 z1.1 (by omega)))) (by first | exact r2_addI | exact r2_subI)) (ea_cons (ed_op (ix1 (ed_fz 0 rfl)) (ix1 (ed_fz 1 rfl)) (r2_mulI (big_of z1.2.2 z2.2.2 z1.1 z2.1 z))) ea_nil)) ⟨_, _, rfl, d1, d2, rfl⟩)

theorem ok_less (T : Tx K mg a_WeighError a_Nought a_NoText a_NoRow a_NoMachine a_NoWord a_OtherSigns a_TooMany a_Span a_NONE a_WHOLE) (c_share : Cl P w K mg base (L2.CX P w) 2 "share" (spX K Ssh (Tsh a_Nought))) : Cl P w K mg base CX0 3 "less" (spR K Sle) := by
  refine clR T.d_less sc_less (fun ds d h => by obtain ⟨p, q, h, _⟩ := h; exact two_len h) fun f cdv A outer s H E hr => ?_
  refine ⟨_, (pss_one (ps_ret (pclX c_share hr (by decide) rfl (pa_cons (pe_op op_sub (pe_op opMul (pe_ix ix_seq (pv 0) pe_int (fun _ _ => rfl)) (pe_ix ix_seq (pv 1) pe_int (fun _ _ => rfl))) (pe_op opMul (pe_ix ix_seq (pv 1) pe_int (fun _ _ => rfl)) (pe_ix ix_seq (pv 0) pe_int (fun _ _ => rfl)))) (pa_cons (pe_op opMul (pe_ix ix_seq (pv 0) pe_int (fun _ _ => rfl)) (pe_ix ix_seq (pv 1) pe_int (fun _ _ => rfl))) pa_nil))))), fun ds d h => ?_⟩
  obtain ⟨p, q, h, rfl⟩ := h
  obtain ⟨d1, d2⟩ := two_den h
  obtain ⟨rfl, h1, h2, n, m, z1, z2, z⟩ := h
  exact sd_ret (ed_callX (ea_cons (ed_op (ed_op (ix0 (ed_fz 0 rfl)) (ix1 (ed_fz 1 rfl)) (r2_mulI (big_of z1.2.1 z2.2.2 z1.1 z2.1 z))) (ed_op (ix0 (ed_fz 1 rfl)) (ix1 (ed_fz 0 rfl)) (r2_mulI (big_of z2.2.1 z1.2.2 z2.1 z1.1 (by omega)))) (by first | exact r2_addI | exact r2_subI)) (ea_cons (ed_op (ix1 (ed_fz 0 rfl)) (ix1 (ed_fz 1 rfl)) (r2_mulI (big_of z1.2.2 z2.2.2 z1.1 z2.1 z))) ea_nil)) ⟨_, _, rfl, d1, d2, rfl⟩)

theorem ok_times (T : Tx K mg a_WeighError a_Nought a_NoText a_NoRow a_NoMachine a_NoWord a_OtherSigns a_TooMany a_Span a_NONE a_WHOLE) (c_share : Cl P w K mg base (L2.CX P w) 2 "share" (spX K Ssh (Tsh a_Nought))) : Cl P w K mg base CX0 3 "times" (spR K Sti) := by
  refine clR T.d_times sc_times (fun ds d h => by obtain ⟨p, q, h, _⟩ := h; exact two_len h) fun f cdv A outer s H E hr => ?_
  refine ⟨_, (pss_one (ps_ret (pclX c_share hr (by decide) rfl (pa_cons (pe_op opMul (pe_ix ix_seq (pv 0) pe_int (fun _ _ => rfl)) (pe_ix ix_seq (pv 1) pe_int (fun _ _ => rfl))) (pa_cons (pe_op opMul (pe_ix ix_seq (pv 0) pe_int (fun _ _ => rfl)) (pe_ix ix_seq (pv 1) pe_int (fun _ _ => rfl))) pa_nil))))), fun ds d h => ?_⟩
  obtain ⟨p, q, h, rfl⟩ := h
  obtain ⟨d1, d2⟩ := two_den h
  obtain ⟨rfl, h1, h2, n, m, z1, z2, z⟩ := h
  exact sd_ret (ed_callX (ea_cons (ed_op (ix0 (ed_fz 0 rfl)) (ix0 (ed_fz 1 rfl)) (r2_mulI (big_of z1.2.1 z2.2.1 z1.1 z2.1 z))) (ea_cons (ed_op (ix1 (ed_fz 0 rfl)) (ix1 (ed_fz 1 rfl)) (r2_mulI (big_of z1.2.2 z2.2.2 z1.1 z2.1 z))) ea_nil)) ⟨_, _, rfl, d1, d2, rfl⟩)

/-! ### the script's cells -/
def cellAt (ns : List Int) (k : Nat) : Int := ns.getD k 0
theorem atI_nat' {α : Type} {xs : List α} {k : Nat} (h : k < xs.length) : atI xs (k : Int) = some xs[k] := by
  unfold atI ixN
  rw [if_pos (by omega), if_pos (by omega)]
  simp [h]
theorem atI_getD {α : Type} {xs : List α} {j : Int} (h0 : 0 ≤ j) (h : j < xs.length) (d : α) : atI xs j = some (xs.getD j.toNat d) := by
  obtain ⟨k, rfl⟩ : ∃ k : Nat, j = k := ⟨j.toNat, by omega⟩
  have hk : k < xs.length := by omega
  rw [atI_nat' hk]
  simp [List.getD, hk]
def Sca : List D → D → Prop := fun ds d => ∃ (ns : List Int) (k : Nat), ds = [.scr ns, .int k] ∧ d = .int (cellAt ns k)
theorem ok_cell_at (T : Tx K mg a_WeighError a_Nought a_NoText a_NoRow a_NoMachine a_NoWord a_OtherSigns a_TooMany a_Span a_NONE a_WHOLE) : Cl P w K mg base CX0 1 "_law_cell_at" (spR K Sca) := by
  refine clR T.d__law_cell_at sc_law_cell_at (fun ds d h => by obtain ⟨a, b, rfl, _⟩ := h; rfl) fun f cdv A outer s H E hr => ?_
  refine ⟨_, (pss_cons (ps_if (pt_cmpR opLt (pv 1) (pe_callB callLen (by rfl) T.n_len bt_len (pa_cons (pv 0) pa_nil)) (nomark _))
  (pss_one (ps_ret (pe_ix ix_seq (pv 0) (pv 1) (fun _ _ => rfl))))
  pss_nil)
  (pss_one (ps_ret pe_int))), fun ds d h => ?_⟩
  obtain ⟨ns, k, rfl, rfl⟩ := h
  have test : Et K (tTest (tOp rLtA (tVar 1) (tCB (rLenA K) (tCons (tVar 0) tNil)))) [.fz (.scr ns), .fz (.int k)] (decide ((k : Int) < ns.length)) := et_test (ed_op (ed_fz 1 rfl) (ed_cb (ea_cons (ed_fz 0 rfl) ea_nil) rc_lenP) r2_ltI)
  by_cases hk : k < ns.length
  · have e : cellAt ns k = ns[k] := by simp [cellAt, List.getD, hk]
    rw [e]
    exact sd_stop (sd_ifT (et_is test (decide_eq_true (by omega))) (sd_ret (ed_op (ed_fz 0 rfl) (ed_fz 1 rfl) (r2_ixP (atI_nat' hk))))) rfl
  · have e : cellAt ns k = 0 := by simp [cellAt, List.getD, List.getElem?_eq_none (show ns.length ≤ k by omega)]
    rw [e]
    exact sd_seq (sd_ifF (et_is test (decide_eq_false (by omega))) sd_next) (sd_ret (ed_int 0))
/-- a cell is not too great -/
def Sm (c : Int) : Prop := c.natAbs.log2 ≤ 1048576
theorem sm_bits {c : Int} (h : Builtin.Int.intBits c ≤ 1048576) : Sm c := by
  unfold Sm
  unfold Builtin.Int.intBits at h
  split at h
  · rename_i h0
    have : c.natAbs = 0 := by simpa using h0
    rw [this]; simp
  · omega
theorem sm_at {ns : List Int} (h : ∀ z ∈ ns, Builtin.Int.intBits z ≤ 1048576) (k : Nat) : Sm (cellAt ns k) := by
  by_cases hk : k < ns.length
  · have e : cellAt ns k = ns[k] := by simp [cellAt, List.getD, hk]
    rw [e]; exact sm_bits (h _ (List.getElem_mem hk))
  · have e : cellAt ns k = 0 := by simp [cellAt, List.getD, List.getElem?_eq_none (show ns.length ≤ k by omega)]
    rw [e]; unfold Sm; simp

/-! ### shares by any bottom -/
theorem mkS_unique {t b p q : Int} (hb : b ≠ 0) (hq : 0 < q) (hc : Nat.gcd p.natAbs q.natAbs = 1) (h : p * b = t * q) : mkS t b = (p, q) := by
  have h1 := mkS_cross (t := t) hb
  have h2 := mkS_pos (t := t) hb
  have h3 := mkS_cop (t := t) hb
  generalize mkS t b = r at h1 h2 h3
  obtain ⟨p', q'⟩ := r
  simp only at h1 h2 h3
  have e : p' * q = p * q' := by
    apply Int.eq_of_mul_eq_mul_right hb
    calc p' * q * b = (p' * b) * q := by rw [Int.mul_right_comm]
      _ = (t * q') * q := by rw [h1]
      _ = (t * q) * q' := by rw [Int.mul_right_comm]
      _ = (p * b) * q' := by rw [h]
      _ = p * q' * b := by rw [Int.mul_right_comm]
  have en : p'.natAbs * q.natAbs = p.natAbs * q'.natAbs := by rw [← Int.natAbs_mul, ← Int.natAbs_mul, e]
  have d1 : q'.natAbs ∣ q.natAbs := (Nat.Coprime.symm h3).dvd_of_dvd_mul_left ⟨p.natAbs, by rw [en, Nat.mul_comm]⟩
  have d2 : q.natAbs ∣ q'.natAbs := (Nat.Coprime.symm hc).dvd_of_dvd_mul_left ⟨p'.natAbs, by rw [← en, Nat.mul_comm]⟩
  have eq : q' = q := by
    have := Nat.dvd_antisymm d1 d2
    omega
  subst eq
  have ep : p' = p := Int.eq_of_mul_eq_mul_right (by omega) e
  rw [ep]
theorem mkS_congr {t b t' b' : Int} (hb : b ≠ 0) (hb' : b' ≠ 0) (h : t * b' = t' * b) : mkS t b = mkS t' b' := by
  refine mkS_unique hb (mkS_pos hb') (mkS_cop hb') ?_
  have h1 := mkS_cross (t := t') hb'
  apply Int.eq_of_mul_eq_mul_right hb'
  calc (mkS t' b').1 * b * b' = ((mkS t' b').1 * b') * b := by rw [Int.mul_right_comm]
    _ = (t' * (mkS t' b').2) * b := by rw [h1]
    _ = (t' * b) * (mkS t' b').2 := by rw [Int.mul_right_comm]
    _ = (t * b') * (mkS t' b').2 := by rw [h]
    _ = t * (mkS t' b').2 * b' := by rw [Int.mul_right_comm]
theorem plus_mk {a b c d : Int} (hb : b ≠ 0) (hd : d ≠ 0) : plusS (mkS a b) (mkS c d) = mkS (a * d + c * b) (b * d) := by
  have h1 := mkS_cross (t := a) hb
  have h2 := mkS_cross (t := c) hd
  have p1 := mkS_pos (t := a) hb
  have p2 := mkS_pos (t := c) hd
  unfold plusS
  refine mkS_congr (Int.mul_ne_zero (by omega) (by omega)) (Int.mul_ne_zero hb hd) ?_
  generalize (mkS a b).1 = p at *
  generalize (mkS a b).2 = q at *
  generalize (mkS c d).1 = r at *
  generalize (mkS c d).2 = s at *
  grind
theorem less_mk {a b c d : Int} (hb : b ≠ 0) (hd : d ≠ 0) : lessS (mkS a b) (mkS c d) = mkS (a * d - c * b) (b * d) := by
  have h1 := mkS_cross (t := a) hb
  have h2 := mkS_cross (t := c) hd
  have p1 := mkS_pos (t := a) hb
  have p2 := mkS_pos (t := c) hd
  unfold lessS
  refine mkS_congr (Int.mul_ne_zero (by omega) (by omega)) (Int.mul_ne_zero hb hd) ?_
  generalize (mkS a b).1 = p at *
  generalize (mkS a b).2 = q at *
  generalize (mkS c d).1 = r at *
  generalize (mkS c d).2 = s at *
  grind
theorem times_mk {a b c d : Int} (hb : b ≠ 0) (hd : d ≠ 0) : timesS (mkS a b) (mkS c d) = mkS (a * c) (b * d) := by
  have h1 := mkS_cross (t := a) hb
  have h2 := mkS_cross (t := c) hd
  have p1 := mkS_pos (t := a) hb
  have p2 := mkS_pos (t := c) hd
  unfold timesS
  refine mkS_congr (Int.mul_ne_zero (by omega) (by omega)) (Int.mul_ne_zero hb hd) ?_
  generalize (mkS a b).1 = p at *
  generalize (mkS a b).2 = q at *
  generalize (mkS c d).1 = r at *
  generalize (mkS c d).2 = s at *
  grind
theorem plus_same {a b c : Int} (hb : b ≠ 0) : plusS (mkS a b) (mkS c b) = mkS (a + c) b := by
  rw [plus_mk hb hb]
  exact mkS_congr (Int.mul_ne_zero hb hb) hb (by grind)
theorem mkS_zero {b : Int} (hb : b ≠ 0) : mkS 0 b = (0, 1) := mkS_unique hb (by decide) (by decide) (by omega)
theorem mkS_scale {k t b : Int} (hk : k ≠ 0) (hb : b ≠ 0) : mkS (k * t) (k * b) = mkS t b := mkS_congr (Int.mul_ne_zero hk hb) hb (by grind)
theorem getD_at {α : Type} {xs : List α} {j : Nat} {d : α} (h : j < xs.length) : xs.getD j d = xs[j] := by simp [List.getD, h]
/-! ### rows over one bottom -/
def shL (ps : List (Int × Int)) : D := .lst (ps.map sh)
def tabL (T : List (List (Int × Int))) : D := .lst (T.map shL)
def rwS (B : Int) (ts : List Int) : List (Int × Int) := ts.map fun t => mkS t B
def dot : List Int → List Int → Int
  | a :: as, b :: bs => a * b + dot as bs
  | _, _ => 0
def Bz (B : Int) (w : Nat) : Prop := 0 < B ∧ B.natAbs < 2 ^ w
def Nz (ts : List Int) (w : Nat) : Prop := ∀ t ∈ ts, t.natAbs < 2 ^ w
theorem pow_le2 {a b : Nat} (h : a ≤ b) : 2 ^ a ≤ 2 ^ b := Nat.pow_le_pow_right (by decide) h
theorem Bz.mono {B : Int} {w v : Nat} (h : Bz B w) (e : w ≤ v) : Bz B v := ⟨h.1, Nat.lt_of_lt_of_le h.2 (pow_le2 e)⟩
theorem Nz.mono {B : List Int} {w v : Nat} (h : Nz B w) (e : w ≤ v) : Nz B v := fun t ht => Nat.lt_of_lt_of_le (h t ht) (pow_le2 e)
theorem Bz.mul {A B : Int} {w v : Nat} (h : Bz A w) (e : Bz B v) : Bz (A * B) (w + v) := ⟨Int.mul_pos h.1 e.1, mul_lt h.2 e.2⟩
theorem sz_mk {t B : Int} {w : Nat} (hw : 0 < w) (h : Bz B w) (ht : t.natAbs < 2 ^ w) : Sz w (mkS t B) := by
  have hb : B ≠ 0 := by have := h.1; omega
  obtain ⟨a, b⟩ := mkS_le (t := t) hb
  exact ⟨hw, Nat.lt_of_le_of_lt a ht, Nat.lt_of_le_of_lt b h.2⟩
theorem mk_ne {t B : Int} (h : 0 < B) : (mkS t B).2 ≠ 0 := by
  have := mkS_pos (t := t) (b := B) (by omega)
  omega
theorem two_mk {t u B1 B2 : Int} {w1 w2 : Nat} (h1 : Bz B1 w1) (h2 : Bz B2 w2) (ht : t.natAbs < 2 ^ w1) (hu : u.natAbs < 2 ^ w2) (p1 : 0 < w1) (p2 : 0 < w2) (hw : w1 + w2 ≤ LIM) : Two [sh (mkS t B1), sh (mkS u B2)] (mkS t B1) (mkS u B2) :=
  ⟨rfl, mk_ne h1.1, mk_ne h2.1, w1, w2, sz_mk p1 h1 ht, sz_mk p2 h2 hu, hw⟩
theorem dot_lt {w v : Nat} : ∀ {ts us : List Int}, Nz ts w → Nz us v → (dot ts us).natAbs ≤ ts.length * 2 ^ (w + v)
  | [], _, _, _ => by simp [dot]
  | _ :: _, [], _, _ => by simp [dot]
  | t :: ts, u :: us, h1, h2 => by
    have ih := dot_lt (ts := ts) (us := us) (fun x hx => h1 x (List.mem_cons_of_mem _ hx)) fun x hx => h2 x (List.mem_cons_of_mem _ hx)
    have m := mul_lt (h1 t List.mem_cons_self) (h2 u List.mem_cons_self)
    show (t * u + dot ts us).natAbs ≤ (ts.length + 1) * 2 ^ (w + v)
    rw [Nat.add_mul, Nat.one_mul]
    have := Int.natAbs_add_le (t * u) (dot ts us)
    omega
theorem dot_lt16 {w v : Nat} {ts us : List Int} (h1 : Nz ts w) (h2 : Nz us v) (hl : ts.length ≤ 15) : (dot ts us).natAbs < 2 ^ (w + v + 4) := by
  have := dot_lt h1 h2
  have p : 0 < 2 ^ (w + v) := Nat.pow_pos (by decide)
  have e : 2 ^ (w + v + 4) = 16 * 2 ^ (w + v) := by rw [Nat.pow_add]; omega
  have : ts.length * 2 ^ (w + v) ≤ 15 * 2 ^ (w + v) := Nat.mul_le_mul_right _ hl
  omega
/-- by a row and a table -/
def colI (T : List (List Int)) (j : Nat) : List Int := T.map fun r => r.getD j 0
def ledI (ts : List Int) (T : List (List Int)) : List Int := (List.range ts.length).map fun j => dot ts (colI T j)

/-! ### machines of anything: good or refused -/
def Kd (d : D) : Prop := ∃ U, tyD d = some U
def Pt (d : D) : Prop := Kd d ∧ ∀ a b, d = .tup [a, b] → Kd a ∧ Kd b
def RowK (d : D) : Prop := Kd d ∧ ∀ es, d = .lst es → es.length ≤ 1000 ∧ ∀ e ∈ es, Pt e
def TabK (d : D) : Prop := Kd d ∧ ∀ es, d = .lst es → es.length ≤ 1000 ∧ ∀ e ∈ es, RowK e
def MovK (d : D) : Prop := Kd d ∧ ∀ es, d = .lst es → es.length ≤ 1000 ∧ ∀ e ∈ es, TabK e
def isRow (n : Nat) : D → Bool
  | .lst es => decide (es.length = n) && es.all isSh
  | _ => false
def isTab (n : Nat) : D → Bool
  | .lst es => decide (es.length = n) && es.all (isRow n)
  | _ => false
def isLs : D → Bool
  | .lst _ => true
  | _ => false
def lenD : D → Nat
  | .lst es => es.length
  | _ => 0
theorem isi_lst {K : PySem.W.Frag} {d : D} (h : Kd d) : RcD K (rIsi K) [d, .ty "list"] (.bl (isLs d)) := by
  obtain ⟨U, hU⟩ := h
  refine rc_isi hU ?_
  cases d <;> first | (cases hU; done) | (cases hU; simp only [isLs]; decide +kernel)
def isSt : D → Bool
  | .str _ => true
  | _ => false
theorem isi_str {K : PySem.W.Frag} {d : D} (h : Kd d) {b : Bool} (hb : isSt d = b) : RcD K (rIsi K) [d, .ty "str"] (.bl b) := by
  obtain ⟨U, hU⟩ := h
  refine rc_isi hU ?_
  subst hb
  cases d <;> first | (cases hU; done) | (cases hU; simp only [isSt]; decide +kernel)
def SirG : List D → D → Prop := fun ds d => ∃ (x : D) (n : Nat), ds = [x, .int n] ∧ RowK x ∧ d = .bl (isRow n x)
theorem ok_is_rowG (T : Tx K mg a_WeighError a_Nought a_NoText a_NoRow a_NoMachine a_NoWord a_OtherSigns a_TooMany a_Span a_NONE a_WHOLE) (c_is_share : Cl P w K mg base CX0 2 "is_share" (spR K Sis)) : Cl P w K mg base CX0 3 "is_row" (spR K SirG) := by
  refine clR T.d_is_row sc_is_row (fun ds d h => by obtain ⟨a, b, rfl, _⟩ := h; rfl) fun f cdv A outer s H E hr => ?_
  refine ⟨_, (pss_one (ps_ret (pe_and (pe_callB call_isi (by rfl) T.n_isinstance bt_isinstance (pa_cons (pv 0) (pa_cons (pe_bltn (v := .ty "list") (by rfl) T.n_list bt_list rfl) pa_nil))) (pe_and (pe_cmpR (op_eqD hr.units) (pe_callB callLen (by rfl) T.n_len bt_len (pa_cons (pv 0) pa_nil)) (pv 1) (nomark _)) (pe_one (pe_callB (cr_all rfl) (by rfl) T.n_all bt_all (pa_cons (pe_lc rfl sc_is_row.nd (own := [("part", 2)]) (pi_list (pv 0)) (blkOk_by (by kernel_rfl)) (fun _ _ _ _ _ => (pg_name (i := 2) sc_is_row.nd rfl (by first | exact Or.inl rfl | exact Or.inr rfl))) (fun _ _ _ _ _ => pts_nil) (fun _ _ _ _ _ => (pcl c_is_share hr (by decide) rfl (pa_cons (pv 2) pa_nil)))) pa_nil))))))), fun ds d h => ?_⟩
  obtain ⟨x, n, rfl, ⟨hk, hx⟩, rfl⟩ := h
  by_cases hl : ∃ es, x = .lst es
  · obtain ⟨es, rfl⟩ := hl
    obtain ⟨le, hp⟩ := hx es rfl
    refine sd_ret (ed_is (ed_andV (ed_cb (ea_cons (ed_fz 0 rfl) (ea_cons (ed_ty _) ea_nil)) (isi_lst hk)) fun _ => ed_andV (ed_op (ed_cb (ea_cons (ed_fz 0 rfl) ea_nil) rc_lenL) (ed_fz 1 rfl) r2_eqI) fun _ => ed_cb (ea_cons (ed_is (ed_map es id (fun e => .bl (isSh e)) (Ei.is (ei_list (ed_fz 0 rfl)) (List.map_id es).symm) (by omega) fun e he => ⟨[2], _, eg_name 2, by simp, ed_call (ea_cons (ed_fz 2 rfl) ea_nil) ⟨e, rfl, (hp e he).1, (hp e he).2, rfl⟩⟩) (show _ = D.lst ((es.map isSh).map D.bl) by rw [List.map_map]; rfl)) ea_nil) rc_all) ?_)
    show D.bl (true && (decide ((es.length : Int) = (n : Int)) && (es.map isSh).all id)) = D.bl (decide (es.length = n) && es.all isSh)
    rw [Bool.true_and, List.all_map]
    congr 2
    exact decide_eq_decide.mpr (by omega)
  · have e1 : isLs x = false := by cases x <;> first | rfl | exact absurd ⟨_, rfl⟩ hl
    have e2 : isRow n x = false := by cases x <;> first | rfl | exact absurd ⟨_, rfl⟩ hl
    rw [e2]
    refine sd_ret (ed_andF (ed_is (ed_cb (ea_cons (ed_fz 0 rfl) (ea_cons (ed_ty _) ea_nil)) (isi_lst hk)) (congrArg D.bl e1)))

theorem ok__law_whole (T : Tx K mg a_WeighError a_Nought a_NoText a_NoRow a_NoMachine a_NoWord a_OtherSigns a_TooMany a_Span a_NONE a_WHOLE) : Cl P w K mg base CX0 1 "_law_whole" (spR K Swh) := by
  refine clR T.d__law_whole sc_law_whole (fun ds d h => by obtain ⟨a, b, rfl, _⟩ := h; rfl) fun f cdv A outer s H E hr => ?_
  refine ⟨_, (pss_one (ps_ret (pe_and (pe_callB call_isi (by rfl) T.n_isinstance bt_isinstance (pa_cons (pv 0) (pa_cons (pe_bltn (v := .ty "int") (by rfl) T.n_int bt_int rfl) pa_nil))) (pe_one (pe_not (pe_callB call_isi (by rfl) T.n_isinstance bt_isinstance (pa_cons (pv 0) (pa_cons (pe_bltn (v := .ty "bool") (by rfl) T.n_bool bt_bool rfl) pa_nil)))))))), fun ds d h => ?_⟩
  obtain ⟨x, U, rfl, hx, rfl⟩ := h
  obtain ⟨h1, h2, h3, h4⟩ := isi_kind x hx
  refine sd_ret (ed_is (ed_andV (ed_cb (ea_cons (ed_fz 0 rfl) (ea_cons (ed_ty _) ea_nil)) (rc_isi hx h1)) fun _ => ed_notV (ed_cb (ea_cons (ed_fz 0 rfl) (ea_cons (ed_ty _) ea_nil)) (rc_isi hx h2))) ?_)
  rw [h4]
  by_cases e : U = "int"
  · subst e; rfl
  · by_cases e2 : U = "bool"
    · subst e2; rfl
    · rw [beq_eq_false_iff_ne.mpr e, beq_eq_false_iff_ne.mpr e2]; rfl

theorem ok_common (T : Tx K mg a_WeighError a_Nought a_NoText a_NoRow a_NoMachine a_NoWord a_OtherSigns a_TooMany a_Span a_NONE a_WHOLE) : Cl P w K mg base CX0 1 "_law_common" (spR K Sdiv) := by
  refine clR T.d__law_common sc_law_common (fun ds d h => by obtain ⟨a, b, rfl, _⟩ := h; rfl) fun f cdv A outer s H E hr => ?_
  refine ⟨_, (pss_cons (ps_while PassesOwn.never (pt_cmpR op_gt (pv 1) pe_int (nomark _))
  (pss_one (ps_par (i := 0) (j := 1) rfl sc_law_common.nd rfl rfl (by decide) rfl rfl (pa_cons (pv 1) (pa_cons (pe_op op_mod (pv 0) (pv 1)) pa_nil)) rfl)))
  (pss_one (ps_ret (pv 0)))), fun ds d h => ?_⟩
  obtain ⟨a, b, rfl, rfl⟩ := h
  refine sd_seq (Γ1 := [.fz (.int (Nat.gcd a b : Nat)), .fz (.int 0)]) (sd_whileE ?_) (sd_ret (ed_fz 0 rfl))
  show ∃ n, LoopW K E0 _ _ n [.fz (.int a), .fz (.int b)] _
  induction b using Nat.strongRecOn generalizing a with
  | _ b ih =>
    have test : Et K (tTest (tOp (rI0 fun i j => .bl (decide (j < i))) (tVar 1) (tC (.int 0)))) [.fz (.int a), .fz (.int b)] (decide ((0 : Int) < b)) := et_test (ed_op (ed_fz 1 rfl) (ed_int 0) r2_gt)
    by_cases hb : b = 0
    · subst hb
      rw [Nat.gcd_zero_right]
      exact ⟨0, .done test⟩
    · obtain ⟨n, hn⟩ := ih (a % b) (Nat.mod_lt _ (Nat.pos_of_ne_zero hb)) b
      rw [show Nat.gcd b (a % b) = Nat.gcd a b by rw [Nat.gcd_comm b, ← Nat.gcd_rec, Nat.gcd_comm]] at hn
      refine ⟨n + 1, .step (et_is test (decide_eq_true (by omega))) (Sd.toLp ?_) hn⟩
      exact sd_par (ea_cons (ed_fz 1 rfl) (ea_cons (ed_op (ed_fz 0 rfl) (ed_fz 1 rfl) (r2_mod (by omega))) ea_nil))

/-- the law's own share -/
def Sls : List D → D → Prop := fun ds d => ∃ t b : Int, ds = [.int t, .int b] ∧ 0 < b ∧ b.natAbs.log2 < 9000 ∧ d = sh (mkS t b)
theorem mkS_posB {t b : Int} (hb : 0 < b) : mkS t b = (t.fdiv (Nat.gcd t.natAbs b.toNat : Nat), b.fdiv (Nat.gcd t.natAbs b.toNat : Nat)) := by
  have e : cmn t b = (Nat.gcd t.natAbs b.toNat : Nat) := by
    unfold cmn
    rw [if_neg (by omega), show b.natAbs = b.toNat by omega]
  unfold mkS
  rw [e]
theorem ok_lshare (T : Tx K mg a_WeighError a_Nought a_NoText a_NoRow a_NoMachine a_NoWord a_OtherSigns a_TooMany a_Span a_NONE a_WHOLE) (c__law_common : Cl P w K mg base CX0 1 "_law_common" (spR K Sdiv)) : Cl P w K mg base CX0 2 "_law_share" (spR K Sls) := by
  refine clR T.d__law_share sc_law_share (fun ds d h => by obtain ⟨a, b, rfl, _⟩ := h; rfl) fun f cdv A outer s H E hr => ?_
  refine ⟨_, (pss_cons (ps_set (i := 2) sc_law_share.nd rfl (by first | exact Or.inl rfl | exact Or.inr rfl) (pcl c__law_common hr (by decide) rfl (pa_cons (pe_callB call_abs (by rfl) T.n_abs bt_abs (pa_cons (pv 0) pa_nil)) (pa_cons (pv 1) pa_nil))))
  (pss_one (ps_ret (pe_tup (pa_cons (pe_op opFd (pv 0) (pv 2)) (pa_cons (pe_op opFd (pv 1) (pv 2)) pa_nil)))))), fun ds d h => ?_⟩
  obtain ⟨t, b, rfl, hb, hl, rfl⟩ := h
  have fd : ∀ x : Int, CFd x (Nat.gcd t.natAbs b.toNat : Nat) := fun x => by
    have z := cmn_fd (t := t) (x := x) (show b ≠ 0 by omega) hl
    have e : cmn t b = (Nat.gcd t.natAbs b.toNat : Nat) := by
      unfold cmn
      rw [if_neg (by omega), show b.natAbs = b.toNat by omega]
    rw [e] at z
    exact z
  rw [mkS_posB hb]
  refine sd_seq (sd_set 2 (ed_call (ea_cons (ed_cb (ea_cons (ed_fz 0 rfl) ea_nil) rc_abs) (ea_cons (ed_fz 1 rfl) ea_nil)) ⟨t.natAbs, b.toNat, by rw [Int.toNat_of_nonneg (by omega)], rfl⟩)) ?_
  exact sd_ret (ed_tup (ea_cons (ed_op (ed_fz 0 rfl) (ed_fz 2 rfl) (r2_fd (fd _))) (ea_cons (ed_op (ed_fz 1 rfl) (ed_fz 2 rfl) (r2_fd (fd _))) ea_nil)))

/-! ### whole numbers among the fractions, and their bits (plain) -/
def IB (w : Nat) (x : Rat) : Prop := ∃ z : Int, x = (z : Rat) ∧ z.natAbs < 2 ^ w
def NB (a b : Nat) (x : Rat) : Prop := x.num.natAbs < 2 ^ a ∧ x.den < 2 ^ b
theorem pow_le2' {a b : Nat} (h : a ≤ b) : 2 ^ a ≤ 2 ^ b := Nat.pow_le_pow_right (by decide) h
theorem IB.mono {a b : Nat} {x : Rat} (h : IB a x) (e : a ≤ b) : IB b x := by
  obtain ⟨z, e1, e2⟩ := h
  exact ⟨z, e1, Nat.lt_of_lt_of_le e2 (pow_le2' e)⟩
theorem NB.mono {a b c d : Nat} {x : Rat} (h : NB a b x) (e : a ≤ c) (f : b ≤ d) : NB c d x := ⟨Nat.lt_of_lt_of_le h.1 (pow_le2' e), Nat.lt_of_lt_of_le h.2 (pow_le2' f)⟩
theorem IB.mul {a b : Nat} {x y : Rat} (h : IB a x) (k : IB b y) : IB (a + b) (x * y) := by
  obtain ⟨z, rfl, e2⟩ := h
  obtain ⟨u, rfl, f2⟩ := k
  exact ⟨z * u, (Rat.intCast_mul z u).symm, by rw [Int.natAbs_mul, Nat.pow_add]; exact Nat.mul_lt_mul'' e2 f2⟩
theorem IB.neg {a : Nat} {x : Rat} (h : IB a x) : IB a (-x) := by
  obtain ⟨z, rfl, e2⟩ := h
  exact ⟨-z, (Rat.intCast_neg z).symm, by rw [Int.natAbs_neg]; exact e2⟩
theorem IB.one : IB 1 1 := ⟨1, rfl, by decide⟩
theorem IB.zero (a : Nat) : IB a 0 := ⟨0, rfl, Nat.pow_pos (by decide)⟩
/-- sums counted in so many of 2 ^ w -/
def IC (w n : Nat) (x : Rat) : Prop := ∃ z : Int, x = (z : Rat) ∧ (z = 0 ∨ z.natAbs < n * 2 ^ w)
theorem IC.zero (w : Nat) : IC w 0 0 := ⟨0, rfl, .inl rfl⟩
theorem IC.add {w n m : Nat} {x y : Rat} (h : IC w n x) (k : IC w m y) : IC w (n + m) (x + y) := by
  obtain ⟨z, rfl, e⟩ := h
  obtain ⟨u, rfl, f⟩ := k
  refine ⟨z + u, (Rat.intCast_add z u).symm, ?_⟩
  rw [Nat.add_mul]
  generalize n * 2 ^ w = N at *
  generalize m * 2 ^ w = M at *
  omega
theorem IC.neg {w n : Nat} {x : Rat} (h : IC w n x) : IC w n (-x) := by
  obtain ⟨z, rfl, e⟩ := h
  exact ⟨-z, (Rat.intCast_neg z).symm, by omega⟩
theorem IB.ic {w : Nat} {x : Rat} (h : IB w x) : IC w 1 x := by
  obtain ⟨z, rfl, e⟩ := h
  exact ⟨z, rfl, .inr (by omega)⟩
theorem IC.ib {w n v : Nat} {x : Rat} (h : IC w n x) (hn : n ≤ 2 ^ v) : IB (w + v) x := by
  obtain ⟨z, rfl, e⟩ := h
  refine ⟨z, rfl, ?_⟩
  have p : 0 < 2 ^ (w + v) := Nat.pow_pos (by decide)
  have : n * 2 ^ w ≤ 2 ^ (w + v) := by rw [Nat.pow_add, Nat.mul_comm (2 ^ w)]; exact Nat.mul_le_mul_right _ hn
  omega
theorem nb_div {a b : Nat} {x p q : Rat} (hx : x * q = p) (hp : IB a p) (hq : IB b q) (h0 : q ≠ 0) : NB a b x := by
  obtain ⟨n, rfl, hn⟩ := hp
  obtain ⟨d, rfl, hd⟩ := hq
  have d0 : d ≠ 0 := fun z => h0 (by rw [z]; rfl)
  have e : x.num * d = n * x.den := by
    have h1 : x = (x.num : Rat) / (x.den : Int) := by rw [← Rat.divInt_eq_div, Rat.num_divInt_den]
    have h2 : ((x.den : Int) : Rat) ≠ 0 := by
      intro z
      have := Rat.intCast_inj.mp (z.trans Rat.intCast_zero.symm)
      have := x.den_nz
      omega
    have h3 : (x.num : Rat) * (d : Rat) = (n : Rat) * ((x.den : Int) : Rat) := by
      generalize (x.num : Rat) = N at *
      generalize ((x.den : Int) : Rat) = E at *
      subst h1
      grind
    rw [← Rat.intCast_mul, ← Rat.intCast_mul] at h3
    exact Rat.intCast_inj.mp h3
  have e2 : x.num.natAbs * d.natAbs = n.natAbs * x.den := by
    have := congrArg Int.natAbs e
    rwa [Int.natAbs_mul, Int.natAbs_mul, Int.natAbs_natCast] at this
  have c := x.reduced
  have d1 : x.den ∣ d.natAbs := by
    refine Nat.Coprime.dvd_of_dvd_mul_left (Nat.Coprime.symm c) ?_
    exact ⟨n.natAbs, by rw [e2, Nat.mul_comm]⟩
  have le : x.den ≤ d.natAbs := Nat.le_of_dvd (by omega) d1
  refine ⟨?_, Nat.lt_of_le_of_lt le hd⟩
  obtain ⟨k, hk⟩ := d1
  have k0 : 0 < k := Nat.pos_of_ne_zero fun z => by subst z; simp at hk; omega
  have xd : 0 < x.den := Nat.pos_of_ne_zero x.den_nz
  rw [hk, ← Nat.mul_assoc, Nat.mul_comm x.num.natAbs, Nat.mul_assoc, Nat.mul_comm n.natAbs] at e2
  have := Nat.eq_of_mul_eq_mul_left xd e2
  refine Nat.lt_of_le_of_lt ?_ hn
  rw [← this]
  exact Nat.le_mul_of_pos_right _ k0
/-! ### determinants (plain) -/
abbrev Rw := Nat → Rat
/-- along the column c: with each row taken out -/
def exD (f : List Rw → Rat) (c : Nat) (pre : List Rw) : List Rw → Rat
  | [] => 0
  | r :: rs => r c * f (pre ++ rs) - exD f c (pre ++ [r]) rs
def dt : List Nat → List Rw → Rat
  | [], [] => 1
  | [], _ :: _ => 0
  | c :: cs, rs => exD (dt cs) c [] rs
theorem dt_nil {A : List Rw} {r : Rw} {B : List Rw} : dt [] (A ++ r :: B) = 0 := by cases A <;> simp [dt]
theorem exD_zero {f : List Rw → Rat} {c : Nat} : ∀ (rs pre : List Rw), (∀ A b B, rs = A ++ b :: B → f (pre ++ A ++ B) = 0) → exD f c pre rs = 0
  | [], _, _ => rfl
  | r :: rs, pre, h => by
    show r c * f (pre ++ rs) - exD f c (pre ++ [r]) rs = 0
    rw [exD_zero rs (pre ++ [r]) fun A b B e => by
      have := h (r :: A) b B (by rw [e]; rfl)
      simpa using this]
    have := h [] r rs rfl
    rw [List.append_nil] at this
    rw [this]; grind
theorem dt_adj : ∀ (cs : List Nat) (A B : List Rw) (r : Rw), dt cs (A ++ r :: r :: B) = 0
  | [], A, B, r => dt_nil
  | c :: cs, A, B, r => by
    have ih := dt_adj cs
    show exD (dt cs) c [] (A ++ r :: r :: B) = 0
    suffices main : ∀ (A pre : List Rw), exD (dt cs) c pre (A ++ r :: r :: B) = 0 from main A []
    intro A
    induction A with
    | nil =>
      intro pre
      show r c * dt cs (pre ++ r :: B) - (r c * dt cs (pre ++ [r] ++ B) - exD (dt cs) c (pre ++ [r] ++ [r]) B) = 0
      rw [exD_zero B (pre ++ [r] ++ [r]) fun A' b B'' e => by
        have : pre ++ [r] ++ [r] ++ A' ++ B'' = pre ++ r :: r :: (A' ++ B'') := by simp
        rw [this]
        exact ih pre (A' ++ B'') r]
      rw [show pre ++ [r] ++ B = pre ++ r :: B by simp]
      grind
    | cons a A iA =>
      intro pre
      show a c * dt cs (pre ++ (A ++ r :: r :: B)) - exD (dt cs) c (pre ++ [a]) (A ++ r :: r :: B) = 0
      rw [iA (pre ++ [a]), ← List.append_assoc, ih (pre ++ A) B r]
      grind
def adm (x : Rw) (a : Rat) (y : Rw) : Rw := fun k => x k + a * y k
theorem dt_lin : ∀ (cs : List Nat) (A B : List Rw) (x y : Rw) (a : Rat), dt cs (A ++ adm x a y :: B) = dt cs (A ++ x :: B) + a * (dt cs (A ++ y :: B))
  | [], A, B, x, y, a => by rw [dt_nil, dt_nil, dt_nil]; grind
  | c :: cs, A, B, x, y, a => by
    have ih := dt_lin cs
    -- what stands behind the row
    have beh : ∀ (B pre Z : List Rw), exD (dt cs) c (pre ++ adm x a y :: Z) B = exD (dt cs) c (pre ++ x :: Z) B + a * exD (dt cs) c (pre ++ y :: Z) B := by
      intro B
      induction B with
      | nil => intro pre Z; show (0 : Rat) = 0 + a * 0; grind
      | cons b B iB =>
        intro pre Z
        have h := iB pre (Z ++ [b])
        have i := ih pre (Z ++ B) x y a
        simp only [exD, List.append_assoc, List.cons_append] at h i ⊢
        rw [h, i]
        grind
    show exD (dt cs) c [] (A ++ adm x a y :: B) = exD (dt cs) c [] (A ++ x :: B) + a * exD (dt cs) c [] (A ++ y :: B)
    suffices main : ∀ (A pre : List Rw), exD (dt cs) c pre (A ++ adm x a y :: B) = exD (dt cs) c pre (A ++ x :: B) + a * exD (dt cs) c pre (A ++ y :: B) from main A []
    intro A
    induction A with
    | nil =>
      intro pre
      have h := beh B pre []
      show adm x a y c * dt cs (pre ++ B) - exD (dt cs) c (pre ++ [adm x a y]) B = x c * dt cs (pre ++ B) - exD (dt cs) c (pre ++ [x]) B + a * (y c * dt cs (pre ++ B) - exD (dt cs) c (pre ++ [y]) B)
      rw [h]
      unfold adm
      grind
    | cons b A iA =>
      intro pre
      have i := ih (pre ++ A) B x y a
      have h := iA (pre ++ [b])
      simp only [exD, List.append_assoc, List.cons_append] at h i ⊢
      rw [h, i]
      grind
theorem dt_swap (cs : List Nat) (A B : List Rw) (x y : Rw) : dt cs (A ++ x :: y :: B) = - dt cs (A ++ y :: x :: B) := by
  have h := dt_adj cs A B (adm x 1 y)
  have l1 := dt_lin cs A (adm x 1 y :: B) x y 1
  have l2 := dt_lin cs (A ++ [x]) B x y 1
  have l3 := dt_lin cs (A ++ [y]) B x y 1
  simp only [List.append_assoc, List.cons_append, List.nil_append] at l2 l3
  have z1 := dt_adj cs A B x
  have z2 := dt_adj cs A B y
  grind
/-- two rows the same -/
theorem dt_same (cs : List Nat) (r : Rw) (C : List Rw) : ∀ (B A : List Rw), dt cs (A ++ r :: (B ++ r :: C)) = 0
  | [], A => dt_adj cs A C r
  | b :: B, A => by
    have ih := dt_same cs r C B (A ++ [b])
    rw [List.cons_append, dt_swap]
    simp only [List.append_assoc, List.cons_append, List.nil_append] at ih
    rw [ih]; grind
/-- a row of which all but the last column is nought, at the end -/
theorem dt_last {R : Rw} {c : Nat} : ∀ {cs : List Nat} {rs : List Rw}, (∀ p ∈ cs, R p = 0) → dt (cs ++ [c]) (rs ++ [R]) = dt cs rs * R c
  | [], [], _ => by
    show R c * 1 - 0 = 1 * R c
    grind
  | [], r :: rs, _ => by
    show exD (dt []) c [] (r :: rs ++ [R]) = dt [] (r :: rs) * R c
    rw [exD_zero _ [] fun A b B e => by
      cases A with
      | nil =>
        simp only [List.nil_append] at e ⊢
        cases B with
        | nil => simp at e
        | cons => rfl
      | cons a A => rfl]
    show (0 : Rat) = 0 * R c
    grind
  | p :: cs, rs, h => by
    have hp := h p List.mem_cons_self
    have ih := fun rs => dt_last (R := R) (c := c) (cs := cs) (rs := rs) fun x hx => h x (List.mem_cons_of_mem _ hx)
    show exD (dt (cs ++ [c])) p [] (rs ++ [R]) = exD (dt cs) p [] rs * R c
    suffices main : ∀ (rs pre : List Rw), exD (dt (cs ++ [c])) p pre (rs ++ [R]) = exD (dt cs) p pre rs * R c from main rs []
    intro rs
    induction rs with
    | nil =>
      intro pre
      show R p * _ - 0 = 0 * R c
      rw [hp]; grind
    | cons r rs iR =>
      intro pre
      show r p * dt (cs ++ [c]) (pre ++ (rs ++ [R])) - exD (dt (cs ++ [c])) p (pre ++ [r]) (rs ++ [R]) = (r p * dt cs (pre ++ rs) - exD (dt cs) p (pre ++ [r]) rs) * R c
      rw [iR, ← List.append_assoc, ih]
      grind
/-- a row of noughts -/
theorem dt_null {R : Rw} : ∀ {cs : List Nat} {A B : List Rw}, (∀ p ∈ cs, R p = 0) → dt cs (A ++ R :: B) = 0
  | [], A, B, _ => dt_nil
  | p :: cs, A, B, h => by
    have hp := h p List.mem_cons_self
    have ih := fun A B => dt_null (R := R) (cs := cs) (A := A) (B := B) fun x hx => h x (List.mem_cons_of_mem _ hx)
    show exD (dt cs) p [] (A ++ R :: B) = 0
    suffices main : ∀ (A pre : List Rw), exD (dt cs) p pre (A ++ R :: B) = 0 from main A []
    intro A
    induction A with
    | nil =>
      intro pre
      show R p * _ - exD (dt cs) p (pre ++ [R]) B = 0
      rw [hp, exD_zero B _ fun A b B' e => by
        have := ih pre (A ++ B')
        simpa using this]
      grind
    | cons a A iA =>
      intro pre
      show a p * dt cs (pre ++ (A ++ R :: B)) - exD (dt cs) p (pre ++ [a]) (A ++ R :: B) = 0
      rw [iA, ← List.append_assoc, ih]
      grind
theorem dt_ib : ∀ (cs : List Nat) (L : List (Rw × Nat)), (∀ x ∈ L, ∀ c, IB x.2 (x.1 c)) → L.length ≤ 32 → IB ((L.map (·.2)).sum + 5 * cs.length + 1) (dt cs (L.map (·.1)))
  | [], [], _, _ => IB.one
  | [], _ :: _, _, _ => IB.zero _
  | c :: cs, L, h, hl => by
    have ih := dt_ib cs
    suffices main : ∀ (L pre : List (Rw × Nat)), (∀ x ∈ pre ++ L, ∀ c, IB x.2 (x.1 c)) → (pre ++ L).length ≤ 32 → IC (((pre ++ L).map (·.2)).sum + 5 * cs.length + 1) L.length (exD (dt cs) c (pre.map (·.1)) (L.map (·.1))) by
      have z := (main L [] h hl).ib (v := 5) (by exact hl)
      refine z.mono ?_
      simp only [List.nil_append, List.length_cons]
      omega
    intro L
    induction L with
    | nil => intro pre _ _; exact IC.zero _
    | cons x L iL =>
      intro pre hh hn
      have i1 := ih (pre ++ L) (fun y hy => hh y (by
        rcases List.mem_append.mp hy with z | z
        · exact List.mem_append_left _ z
        · exact List.mem_append_right _ (List.mem_cons_of_mem _ z))) (by simp at hn ⊢; omega)
      have i2 := iL (pre ++ [x]) (by simpa using hh) (by simpa using hn)
      have i3 := (hh x (by simp) c).mul i1
      show IC _ (L.length + 1) (x.1 c * dt cs (pre.map (·.1) ++ L.map (·.1)) - exD (dt cs) c (pre.map (·.1) ++ [x.1]) (L.map (·.1)))
      rw [← List.map_append, Nat.add_comm L.length, Rat.sub_eq_add_neg]
      refine (IB.ic (i3.mono ?_)).add (IC.neg ?_)
      · simp; omega
      · have e : (((pre ++ [x]) ++ L).map (·.2)).sum = ((pre ++ x :: L).map (·.2)).sum := by simp
        rw [e, List.map_append (l₁ := pre) (l₂ := [x]) (f := fun x => x.1)] at i2
        exact i2
/-! ### spans (plain) -/
def sm (f : Nat → Rat) : Nat → Rat
  | 0 => 0
  | m + 1 => sm f m + f m
theorem sm_congr {f g : Nat → Rat} : ∀ {m : Nat}, (∀ i, i < m → f i = g i) → sm f m = sm g m
  | 0, _ => rfl
  | m + 1, h => by
    show sm f m + f m = sm g m + g m
    rw [sm_congr fun i hi => h i (by omega), h m (by omega)]
theorem sm_add (f g : Nat → Rat) : ∀ m, sm (fun i => f i + g i) m = sm f m + sm g m
  | 0 => by show (0 : Rat) = 0 + 0; grind
  | m + 1 => by show sm (fun i => f i + g i) m + (f m + g m) = _; rw [sm_add f g m]; show _ = (sm f m + f m) + (sm g m + g m); grind
theorem sm_mul (a : Rat) (f : Nat → Rat) : ∀ m, sm (fun i => a * f i) m = a * sm f m
  | 0 => by show (0 : Rat) = a * 0; grind
  | m + 1 => by show sm (fun i => a * f i) m + a * f m = _; rw [sm_mul a f m]; show _ = a * (sm f m + f m); grind
theorem sm_zero {f : Nat → Rat} : ∀ {m : Nat}, (∀ i, i < m → f i = 0) → sm f m = 0
  | 0, _ => rfl
  | m + 1, h => by
    show sm f m + f m = 0
    rw [sm_zero fun i hi => h i (by omega), h m (by omega)]; grind
theorem sm_one {f : Nat → Rat} {j : Nat} : ∀ {m : Nat}, j < m → (∀ i, i < m → i ≠ j → f i = 0) → sm f m = f j
  | m + 1, hj, h => by
    show sm f m + f m = f j
    by_cases e : j = m
    · subst e
      rw [sm_zero fun i hi => h i (by omega) (by omega)]; grind
    · rw [sm_one (j := j) (by omega) fun i hi n => h i (by omega) n, h m (by omega) (by omega)]; grind
theorem sm_swap (f : Nat → Nat → Rat) (m : Nat) : ∀ n, sm (fun i => sm (fun j => f i j) m) n = sm (fun j => sm (fun i => f i j) n) m
  | 0 => (sm_zero fun i _ => rfl).symm
  | n + 1 => by
    show sm (fun i => sm (fun j => f i j) m) n + sm (fun j => f n j) m = _
    rw [sm_swap f m n, ← sm_add]
    rfl
/-- what coefficients and rows sum up to -/
def cb (c : Nat → Rat) (T : Nat → Rw) (m : Nat) : Rw := fun k => sm (fun i => c i * T i k) m
def Hangs (n m : Nat) (T : Nat → Rw) (x : Rw) : Prop := ∃ c : Nat → Rat, ∀ k, k < n → x k = cb c T m k
def Free (n m : Nat) (T : Nat → Rw) : Prop := ∀ c : Nat → Rat, (∀ k, k < n → cb c T m k = 0) → ∀ i, i < m → c i = 0
/-- a function of rows that goes over sums -/
def Lnr (φ : Rw → Rat) : Prop := ∀ x a y, φ (adm x a y) = φ x + a * φ y
theorem Lnr.zero {φ : Rw → Rat} (h : Lnr φ) : φ (fun _ => 0) = 0 := by
  have := h (fun _ => 0) 1 (fun _ => 0)
  have e : adm (fun _ => 0) 1 (fun _ => 0) = (fun _ => (0 : Rat)) := by funext k; unfold adm; grind
  rw [e] at this
  grind
theorem Lnr.sum {φ : Rw → Rat} (h : Lnr φ) (y : Rw) (c : Nat → Rat) (T : Nat → Rw) : ∀ m, φ (fun k => y k + cb c T m k) = φ y + sm (fun i => c i * φ (T i)) m
  | 0 => by
    have e : (fun k => y k + cb c T 0 k) = y := by funext k; show y k + 0 = y k; grind
    rw [e]; show _ = φ y + 0; grind
  | m + 1 => by
    have e : (fun k => y k + cb c T (m + 1) k) = adm (fun k => y k + cb c T m k) (c m) (T m) := by
      funext k; show y k + (sm _ m + c m * T m k) = (y k + sm _ m) + c m * T m k; grind
    rw [e, h, h.sum y c T m]; show _ = φ y + (sm _ m + c m * φ (T m)); grind
theorem lnr_dt (cs : List Nat) (A B : List Rw) : Lnr fun y => dt cs (A ++ y :: B) := fun x a y => dt_lin cs A B x y a
def rest (p : Nat → Nat) (l : Nat → Rw) (x : Rw) : Nat → Rw
  | 0 => x
  | j + 1 => fun k => rest p l x j k - rest p l x j (p j) * l j k
def part (p : Nat → Nat) (l q : Nat → Rw) (x : Rw) : Nat → Rw
  | 0 => fun _ => 0
  | j + 1 => fun i => part p l q x j i + rest p l x j (p j) * q j i
def cols (p : Nat → Nat) (m : Nat) : List Nat := (List.range m).map p
def rws (T : Nat → Rw) (m : Nat) : List Rw := (List.range m).map T
theorem cols_succ (p : Nat → Nat) (m : Nat) : cols p (m + 1) = cols p m ++ [p m] := by unfold cols; rw [List.range_succ, List.map_append]; rfl
theorem rws_succ (T : Nat → Rw) (m : Nat) : rws T (m + 1) = rws T m ++ [T m] := by unfold rws; rw [List.range_succ, List.map_append]; rfl
theorem rws_split (T : Nat → Rw) {i m : Nat} (h : i < m) : ∃ B, rws T m = rws T i ++ T i :: B ∧ ∀ j, i < j → j < m → T j ∈ B := by
  induction m with
  | zero => omega
  | succ m ih =>
    by_cases e : i = m
    · subst e
      exact ⟨[], by rw [rws_succ], fun j a b => by omega⟩
    · obtain ⟨B, h1, h2⟩ := ih (by omega)
      refine ⟨B ++ [T m], by rw [rws_succ, h1]; simp, fun j a b => ?_⟩
      by_cases ej : j = m
      · subst ej; simp
      · exact List.mem_append_left _ (h2 j a (by omega))
theorem mem_cols {p : Nat → Nat} {m x : Nat} (h : x ∈ cols p m) : ∃ i, i < m ∧ x = p i := by
  obtain ⟨i, hi, rfl⟩ := List.mem_map.mp h
  exact ⟨i, List.mem_range.mp hi, rfl⟩
structure Spn (n m : Nat) (T : Nat → Rw) (p : Nat → Nat) (l q : Nat → Rw) : Prop where
  pn : ∀ j, j < m → p j < n
  one : ∀ j, j < m → l j (p j) = 1
  nil : ∀ j, j < m → ∀ i, i < j → l j (p i) = 0
  ln : ∀ j, j < m → l j = cb (q j) T m
  up : ∀ j, j < m → ∀ i, j < i → q j i = 0
  det : ∀ j, j ≤ m → dt (cols p j) (rws T j) ≠ 0
section
variable {n m : Nat} {T : Nat → Rw} {p : Nat → Nat} {l q : Nat → Rw}
theorem Spn.rest_nil (S : Spn n m T p l q) (x : Rw) : ∀ j, j ≤ m → ∀ i, i < j → rest p l x j (p i) = 0
  | 0, _, i, h => by omega
  | j + 1, hj, i, h => by
    show rest p l x j (p i) - rest p l x j (p j) * l j (p i) = 0
    by_cases e : i = j
    · subst e
      rw [S.one i (by omega)]; grind
    · rw [S.rest_nil x j (by omega) i (by omega), S.nil j (by omega) i (by omega)]; grind
theorem Spn.part_up (S : Spn n m T p l q) (x : Rw) : ∀ j, j ≤ m → ∀ i, j ≤ i → part p l q x j i = 0
  | 0, _, i, h => rfl
  | j + 1, hj, i, h => by
    show part p l q x j i + rest p l x j (p j) * q j i = 0
    rw [S.part_up x j (by omega) i (by omega), S.up j (by omega) i (by omega)]; grind
theorem cb_cut {c : Nat → Rat} {T : Nat → Rw} {j : Nat} (h : ∀ i, j ≤ i → c i = 0) : ∀ {m}, j ≤ m → cb c T m = cb c T j := by
  intro m hm
  induction hm with
  | refl => rfl
  | step hm ih =>
    funext k
    show cb c T _ k + c _ * T _ k = _
    rw [ih, h _ hm]; grind
theorem Spn.sum (S : Spn n m T p l q) (x : Rw) : ∀ j, j ≤ m → x = fun k => rest p l x j k + cb (part p l q x j) T m k
  | 0, _ => by
    funext k
    show x k = x k + sm _ m
    rw [sm_zero fun i _ => by show 0 * _ = _; grind]; grind
  | j + 1, hj => by
    have ih := S.sum x j (by omega)
    have hl := S.ln j (by omega)
    funext k
    have e : cb (part p l q x (j + 1)) T m k = cb (part p l q x j) T m k + rest p l x j (p j) * cb (q j) T m k := by
      unfold cb
      rw [← sm_mul, ← sm_add]
      exact sm_congr fun i _ => by show (part p l q x j i + rest p l x j (p j) * q j i) * T i k = _; grind
    have e2 : x k = rest p l x j k + cb (part p l q x j) T m k := congrFun ih k
    show x k = (rest p l x j k - rest p l x j (p j) * l j k) + _
    rw [e, ← hl]
    grind
theorem Spn.sumj (S : Spn n m T p l q) (x : Rw) {j : Nat} (hj : j ≤ m) : x = fun k => rest p l x j k + cb (part p l q x j) T j k := by
  have h := S.sum x j hj
  rw [cb_cut (S.part_up x j hj) hj] at h
  exact h
/-- the row beside: a function nought at the kept rows -/
theorem Spn.at_fun (S : Spn n m T p l q) (x : Rw) {j : Nat} (hj : j ≤ m) {φ : Rw → Rat} (hl : Lnr φ) : φ x = φ (rest p l x j) + sm (fun i => part p l q x j i * φ (T i)) j := by
  have e := congrArg φ (S.sumj x hj)
  rw [hl.sum] at e
  exact e
/-- functions nought at the first j rows -/
def phi (p : Nat → Nat) (t : Nat → Rw) (j c : Nat) : Rw → Rat := fun y => dt (cols p j ++ [c]) (rws t j ++ [y])
theorem phi_lnr (p : Nat → Nat) (t : Nat → Rw) (j c : Nat) : Lnr (phi p t j c) := lnr_dt _ _ []
theorem phi_t (p : Nat → Nat) (t : Nat → Rw) {i j : Nat} (c : Nat) (h : i < j) : phi p t j c (t i) = 0 := by
  obtain ⟨B, e, _⟩ := rws_split t h
  show dt _ (rws t j ++ [t i]) = 0
  rw [e, List.append_assoc, List.cons_append]
  exact dt_same _ _ [] B _
/-- .. for one row another one -/
def psi (p : Nat → Nat) (t : Nat → Rw) (j i : Nat) : Rw → Rat := fun y => dt (cols p j) (rws t i ++ y :: ((rws t j).drop (i + 1)))
theorem psi_lnr (p : Nat → Nat) (t : Nat → Rw) (j i : Nat) : Lnr (psi p t j i) := lnr_dt _ _ _
theorem rws_drop (t : Nat → Rw) {i j : Nat} (h : i < j) : rws t j = rws t i ++ t i :: (rws t j).drop (i + 1) ∧ ∀ k, i < k → k < j → t k ∈ (rws t j).drop (i + 1) := by
  obtain ⟨B, e, hm⟩ := rws_split t h
  have hl : (rws t i).length = i := by simp [rws]
  have : (rws t i ++ t i :: B).drop (i + 1) = B := by simp [List.drop_append, hl]
  rw [e, this]
  exact ⟨rfl, hm⟩
theorem psi_self (p : Nat → Nat) (t : Nat → Rw) {i j : Nat} (h : i < j) : psi p t j i (t i) = dt (cols p j) (rws t j) := by
  unfold psi
  rw [← (rws_drop t h).1]
theorem psi_t (p : Nat → Nat) (t : Nat → Rw) {i j k : Nat} (h : i < j) (hk : k < j) (ne : k ≠ i) : psi p t j i (t k) = 0 := by
  unfold psi
  rcases Nat.lt_or_gt_of_ne ne with e | e
  · obtain ⟨B, e, _⟩ := rws_split t e
    rw [e, List.append_assoc, List.cons_append]
    exact dt_same _ _ _ B _
  · obtain ⟨X, Y, e⟩ := List.append_of_mem ((rws_drop t h).2 k e hk)
    rw [e]
    exact dt_same _ _ _ X _
/-- rows of whole numbers under the kept rows -/
structure Whl (m : Nat) (T t : Nat → Rw) (s : Nat → Rat) : Prop where
  eq : ∀ i, i < m → ∀ k, t i k = s i * T i k
  s0 : ∀ i, i < m → s i ≠ 0
theorem lnr_mul {φ : Rw → Rat} (h : Lnr φ) (a : Rat) (y : Rw) : φ (fun k => a * y k) = a * φ y := by
  have e : (fun k => a * y k) = adm (fun _ => 0) a y := by funext k; unfold adm; grind
  rw [e, h, h.zero]; grind
theorem Spn.rest_eq (S : Spn n m T p l q) {t : Nat → Rw} {s : Nat → Rat} (W : Whl m T t s) (x : Rw) {j : Nat} (hj : j ≤ m) (c : Nat) : rest p l x j c * dt (cols p j) (rws t j) = phi p t j c x := by
  have h := S.at_fun x hj (phi_lnr p t j c)
  rw [sm_zero fun i hi => by
    have e : t i = fun k => s i * T i k := funext fun k => W.eq i (by omega) k
    have z := phi_t p t c hi
    rw [e, lnr_mul (phi_lnr p t j c)] at z
    have s0 := W.s0 i (by omega)
    have : phi p t j c (T i) = 0 := by grind
    rw [this]; grind] at h
  rw [h]
  unfold phi
  rw [dt_last fun y hy => by
    obtain ⟨i, hi, rfl⟩ := mem_cols hy
    exact S.rest_nil x j hj i hi]
  grind
theorem Spn.part_eq (S : Spn n m T p l q) {t : Nat → Rw} {s : Nat → Rat} (W : Whl m T t s) (x : Rw) {j : Nat} (hj : j ≤ m) {i : Nat} (hi : i < j) : part p l q x j i * dt (cols p j) (rws t j) = s i * psi p t j i x := by
  have h := S.at_fun x hj (psi_lnr p t j i)
  have e : ∀ k, k < j → ∀ φ : Rw → Rat, Lnr φ → φ (t k) = s k * φ (T k) := fun k hk φ hl => by
    have e : t k = fun c => s k * T k c := funext fun c => W.eq k (by omega) c
    rw [e, lnr_mul hl]
  rw [sm_one hi fun k hk ne => by
    have z := psi_t p t hi hk ne
    rw [e k hk _ (psi_lnr p t j i)] at z
    have s0 := W.s0 k (by omega)
    have : psi p t j i (T k) = 0 := by grind
    rw [this]; grind] at h
  have z : psi p t j i (rest p l x j) = 0 := dt_null fun y hy => by
    obtain ⟨k, hk, rfl⟩ := mem_cols hy
    exact S.rest_nil x j hj k hk
  rw [z] at h
  have w := psi_self p t hi
  rw [e i hi _ (psi_lnr p t j i)] at w
  rw [← w, h]
  grind
/-- what is left is nought just where the row hangs on the kept ones -/
theorem Spn.hangs_of (S : Spn n m T p l q) {x : Rw} (h : ∀ k, k < n → rest p l x m k = 0) : Hangs n m T x := ⟨part p l q x m, fun k hk => by
  have e := congrFun (S.sum x m (Nat.le_refl m)) k
  rw [h k hk] at e
  have e : x k = 0 + cb (part p l q x m) T m k := e
  rw [e]; grind⟩
theorem dt_congr : ∀ {cs : List Nat} {rs rs' : List Rw}, rs.length = rs'.length → (∀ (i c : Nat), c ∈ cs → ∀ r r' : Rw, rs[i]? = some r → rs'[i]? = some r' → r c = r' c) → dt cs rs = dt cs rs'
  | [], [], [], _, _ => rfl
  | [], _ :: _, _ :: _, _, _ => rfl
  | c :: cs, rs, rs', hl, h => by
    have ih := fun rs rs' => @dt_congr cs rs rs'
    show exD (dt cs) c [] rs = exD (dt cs) c [] rs'
    suffices main : ∀ (rs rs' pre pre' : List Rw), pre.length = pre'.length → rs.length = rs'.length → (∀ (i d : Nat), d ∈ c :: cs → ∀ r r' : Rw, (pre ++ rs)[i]? = some r → (pre' ++ rs')[i]? = some r' → r d = r' d) → exD (dt cs) c pre rs = exD (dt cs) c pre' rs' from main rs rs' [] [] rfl hl h
    intro rs
    induction rs with
    | nil =>
      intro rs' pre pre' _ h2 _
      have : rs' = [] := List.eq_nil_of_length_eq_zero h2.symm
      subst this
      rfl
    | cons r rs iR =>
      intro rs' pre pre' h1 h2 h3
      match rs', h2 with
      | r' :: rs', h2 =>
        have e1 : r c = r' c := h3 pre.length c List.mem_cons_self r r' (by simp) (by simp [h1])
        have e2 := iR rs' (pre ++ [r]) (pre' ++ [r']) (by simp [h1]) (by simpa using h2) (by simpa using h3)
        have e3 := ih (pre ++ rs) (pre' ++ rs') (by simp at h2 ⊢; omega) fun i d hd a b ha hb => by
          by_cases hi : i < pre.length
          · rw [List.getElem?_append_left hi] at ha
            rw [List.getElem?_append_left (by omega)] at hb
            exact h3 i d (List.mem_cons_of_mem _ hd) a b (by rw [List.getElem?_append_left hi]; exact ha) (by rw [List.getElem?_append_left (by omega)]; exact hb)
          · rw [List.getElem?_append_right (by omega)] at ha hb
            refine h3 (i + 1) d (List.mem_cons_of_mem _ hd) a b ?_ ?_
            · rw [List.getElem?_append_right (by omega), show i + 1 - pre.length = i - pre.length + 1 by omega]; exact ha
            · rw [List.getElem?_append_right (by omega), show i + 1 - pre'.length = i - pre'.length + 1 by omega]; exact hb
        show r c * _ - _ = r' c * _ - _
        rw [e1, e2, e3]
theorem phi_congr {p : Nat → Nat} {T : Nat → Rw} {j c n : Nat} {x y : Rw} (hp : ∀ i, i < j → p i < n) (hc : c < n) (h : ∀ k, k < n → x k = y k) : phi p T j c x = phi p T j c y := by
  unfold phi
  refine dt_congr (by simp) fun i d hd r r' hr hr' => ?_
  by_cases hi : i < (rws T j).length
  · rw [List.getElem?_append_left hi] at hr hr'
    rw [hr] at hr'
    cases hr'
    rfl
  · rw [List.getElem?_append_right (by omega)] at hr hr'
    have hd' : d < n := by
      rcases List.mem_append.mp hd with z | z
      · obtain ⟨k, hk, rfl⟩ := mem_cols z
        exact hp k hk
      · rw [List.mem_singleton.mp z]; exact hc
    cases e : i - (rws T j).length with
    | zero =>
      rw [e] at hr hr'
      simp only [List.getElem?_cons_zero, Option.some.injEq] at hr hr'
      subst hr; subst hr'
      exact h d hd'
    | succ k => rw [e] at hr; simp at hr
theorem Whl.self {m : Nat} {T : Nat → Rw} : Whl m T T (fun _ => 1) := ⟨fun i _ k => by grind, fun i _ => by grind⟩
theorem Spn.rest_of (S : Spn n m T p l q) {x : Rw} (h : Hangs n m T x) : ∀ k, k < n → rest p l x m k = 0 := fun k hk => by
  obtain ⟨c, hc⟩ := h
  have e := S.rest_eq Whl.self x (Nat.le_refl m) k
  have hl := phi_lnr p T m k
  have z : phi p T m k x = 0 := by
    rw [phi_congr (n := n) (y := fun i => (fun _ => (0 : Rat)) i + cb c T m i) S.pn hk fun i hi => by rw [hc i hi]; grind, hl.sum, hl.zero, sm_zero fun i hi => by rw [phi_t p T k hi]; grind]
    grind
  have d := S.det m (Nat.le_refl m)
  rw [z] at e
  grind
theorem Spn.free (S : Spn n m T p l q) : Free n m T := fun c hc i hi => by
  have hl := psi_lnr p T m i
  have z : psi p T m i (cb c T m) = 0 := dt_null fun y hy => by
    obtain ⟨k, hk, rfl⟩ := mem_cols hy
    exact hc _ (S.pn k hk)
  have e : cb c T m = fun k => (fun _ => (0 : Rat)) k + cb c T m k := by funext k; grind
  rw [e, hl.sum, hl.zero, sm_one hi fun k hk ne => by rw [psi_t p T hi hk ne]; grind, psi_self p T hi] at z
  have d := S.det m (Nat.le_refl m)
  grind
/-- one row more -/
def upd1 {α : Type} (f : Nat → α) (m : Nat) (a : α) : Nat → α := fun i => if i = m then a else f i
theorem upd1_at {α : Type} {f : Nat → α} {m : Nat} {a : α} : upd1 f m a m = a := if_pos rfl
theorem upd1_ne {α : Type} {f : Nat → α} {m i : Nat} {a : α} (h : i ≠ m) : upd1 f m a i = f i := if_neg h
theorem upd1_map {α : Type} {f : Nat → α} {m j : Nat} {a : α} (h : j ≤ m) : (List.range j).map (upd1 f m a) = (List.range j).map f := List.map_congr_left fun i hi => upd1_ne (by have := List.mem_range.mp hi; omega)
theorem rest_upd {p : Nat → Nat} {l : Nat → Rw} {m c : Nat} {r x : Rw} : ∀ {j}, j ≤ m → rest (upd1 p m c) (upd1 l m r) x j = rest p l x j
  | 0, _ => rfl
  | j + 1, h => by
    funext k
    show rest (upd1 p m c) (upd1 l m r) x j k - rest (upd1 p m c) (upd1 l m r) x j (upd1 p m c j) * upd1 l m r j k = _
    rw [rest_upd (by omega), upd1_ne (by omega), upd1_ne (by omega)]; rfl
/-- the line that a row is kept by -/
def newL (p : Nat → Nat) (l : Nat → Rw) (x : Rw) (m c : Nat) : Rw := fun k => rest p l x m k / rest p l x m c
def newQ (p : Nat → Nat) (l q : Nat → Rw) (x : Rw) (m c : Nat) : Rw := fun i => if i = m then 1 / rest p l x m c else if i < m then (0 - part p l q x m i) / rest p l x m c else 0
theorem Spn.put (S : Spn n m T p l q) {x : Rw} {c : Nat} (hc : c < n) (h : rest p l x m c ≠ 0) : Spn n (m + 1) (upd1 T m x) (upd1 p m c) (upd1 l m (newL p l x m c)) (upd1 q m (newQ p l q x m c)) where
  pn j hj := by
    by_cases e : j = m
    · subst e; rw [upd1_at]; exact hc
    · rw [upd1_ne e]; exact S.pn j (by omega)
  one j hj := by
    by_cases e : j = m
    · subst e; rw [upd1_at, upd1_at]; show rest p l x j c / rest p l x j c = 1; grind
    · rw [upd1_ne e, upd1_ne e]; exact S.one j (by omega)
  nil j hj i hi := by
    by_cases e : j = m
    · subst e
      rw [upd1_at, upd1_ne (by omega)]
      show rest p l x j (p i) / rest p l x j c = 0
      rw [S.rest_nil x j (Nat.le_refl j) i hi]; grind
    · rw [upd1_ne e, upd1_ne (by omega)]; exact S.nil j (by omega) i hi
  ln j hj := by
    have old : ∀ a : Nat → Rat, cb a (upd1 T m x) m = cb a T m := fun a => by
      funext k
      exact sm_congr fun i hi => by rw [upd1_ne (by omega)]
    funext k
    show _ = cb _ (upd1 T m x) m k + _ * upd1 T m x m k
    rw [old, upd1_at (f := T)]
    by_cases e : j = m
    · subst e
      rw [upd1_at, upd1_at]
      have z := congrFun (S.sum x j (Nat.le_refl j)) k
      have z : x k = rest p l x j k + cb (part p l q x j) T j k := z
      have w : cb (newQ p l q x j c) T j k = (0 - 1 / rest p l x j c) * cb (part p l q x j) T j k := by
        unfold cb
        rw [← sm_mul]
        refine sm_congr fun i hi => ?_
        unfold newQ
        rw [if_neg (by omega), if_pos hi]
        grind
      have v : newQ p l q x j c j = 1 / rest p l x j c := if_pos rfl
      rw [w, v]
      show rest p l x j k / rest p l x j c = _
      grind
    · rw [upd1_ne e, upd1_ne e, S.ln j (by omega), S.up j (by omega) m (by omega)]; grind
  up j hj i hi := by
    by_cases e : j = m
    · subst e
      rw [upd1_at]
      unfold newQ
      rw [if_neg (by omega), if_neg (by omega)]
    · rw [upd1_ne e]; exact S.up j (by omega) i hi
  det j hj := by
    unfold cols rws
    by_cases e : j = m + 1
    · subst e
      have z := S.rest_eq Whl.self x (Nat.le_refl m) c
      have d := S.det m (Nat.le_refl m)
      unfold phi cols rws at z
      unfold cols rws at d
      rw [List.range_succ, List.map_append, List.map_append, upd1_map (Nat.le_refl m), upd1_map (Nat.le_refl m)]
      show dt (_ ++ [upd1 p m c m]) (_ ++ [upd1 T m x m]) ≠ 0
      rw [upd1_at, upd1_at, ← z]
      intro y
      grind
    · rw [upd1_map (by omega), upd1_map (by omega)]
      exact S.det j (by omega)
theorem spn_nil (n : Nat) (T : Nat → Rw) (p : Nat → Nat) (l q : Nat → Rw) : Spn n 0 T p l q := ⟨fun j h => by omega, fun j h => by omega, fun j h => by omega, fun j h => by omega, fun j h => by omega, fun j h => by
  have : j = 0 := by omega
  subst this
  show dt [] [] ≠ 0
  show (1 : Rat) ≠ 0
  grind⟩
/-- bits: rows of whole numbers t, of b bits each, scales s of g bits -/
structure Bts (m : Nat) (T t : Nat → Rw) (s : Nat → Rat) (b : Nat → Nat) (g : Nat) : Prop where
  w : Whl m T t s
  t : ∀ i, i < m → ∀ k, IB (b i) (t i k)
  s : ∀ i, i < m → IB g (s i)
def bsum (b : Nat → Nat) : Nat → Nat
  | 0 => 0
  | m + 1 => bsum b m + b m
theorem bsum_mono {b : Nat → Nat} {i j : Nat} (h : i ≤ j) : bsum b i ≤ bsum b j := by
  induction h with
  | refl => exact Nat.le_refl _
  | step _ ih => exact Nat.le_trans ih (Nat.le_add_right _ _)
theorem bsum_list (b : Nat → Nat) (m : Nat) : ((List.range m).map b).sum = bsum b m := by
  induction m with
  | zero => rfl
  | succ m ih => rw [List.range_succ, List.map_append, List.sum_append, ih]; simp [bsum]
theorem dt_bits {t : Nat → Rw} {b : Nat → Nat} {j : Nat} (h : ∀ i, i < j → ∀ k, IB (b i) (t i k)) (hj : j ≤ 32) : IB (bsum b j + 5 * j + 1) (dt (cols p j) (rws t j)) := by
  have z := dt_ib (cols p j) ((List.range j).map fun i => (t i, b i)) (fun x hx c => by
    obtain ⟨i, hi, rfl⟩ := List.mem_map.mp hx
    exact h i (List.mem_range.mp hi) c) (by simpa using hj)
  simp only [List.map_map, Function.comp_def] at z
  rw [bsum_list, show (cols p j).length = j by simp [cols]] at z
  exact z
theorem phi_bits {t : Nat → Rw} {b : Nat → Nat} {j c B : Nat} {y : Rw} (h : ∀ i, i < j → ∀ k, IB (b i) (t i k)) (hy : ∀ k, IB B (y k)) (hj : j < 32) : IB (bsum b j + B + 5 * (j + 1) + 1) (phi p t j c y) := by
  have z := dt_ib (cols p j ++ [c]) ((List.range j).map (fun i => (t i, b i)) ++ [(y, B)]) (fun x hx k => by
    rcases List.mem_append.mp hx with hx | hx
    · obtain ⟨i, hi, rfl⟩ := List.mem_map.mp hx
      exact h i (List.mem_range.mp hi) k
    · rw [List.mem_singleton.mp hx]; exact hy k) (by simp; omega)
  simp only [List.map_append, List.map_map, Function.comp_def] at z
  rw [List.sum_append, bsum_list, show (cols p j ++ [c]).length = j + 1 by simp [cols]] at z
  exact z.mono (by simp)
theorem psi_bits {t : Nat → Rw} {b : Nat → Nat} {j i B : Nat} {y : Rw} (h : ∀ i, i < j → ∀ k, IB (b i) (t i k)) (hy : ∀ k, IB B (y k)) (hi : i < j) (hj : j ≤ 32) : IB (bsum b j + B + 5 * j + 1) (psi p t j i y) := by
  have e := (rws_drop t hi).1
  let L : List (Rw × Nat) := (List.range j).map fun i => (t i, b i)
  have eL : L.map (·.1) = rws t j := by simp [L, rws, Function.comp_def]
  have lL : L.length = j := by simp [L]
  have hL : ∀ x ∈ L, ∀ c, IB x.2 (x.1 c) := fun x hx c => by
    obtain ⟨i, hi, rfl⟩ := List.mem_map.mp hx
    exact h i (List.mem_range.mp hi) c
  have z := dt_ib (cols p j) (L.take i ++ (y, B) :: L.drop (i + 1)) (fun x hx k => by
    rcases List.mem_append.mp hx with hx | hx
    · exact hL x (List.mem_of_mem_take hx) k
    · rcases List.mem_cons.mp hx with hx | hx
      · rw [hx]; exact hy k
      · exact hL x (List.mem_of_mem_drop hx) k) (by simp [lL]; omega)
  have e2 : (L.take i ++ (y, B) :: L.drop (i + 1)).map (·.1) = rws t i ++ y :: (rws t j).drop (i + 1) := by
    rw [List.map_append, List.map_cons, List.map_take, List.map_drop, eL]
    congr 1
    unfold rws
    rw [← List.map_take, List.take_range]
    congr 2
    omega
  have e3 : ((L.take i ++ (y, B) :: L.drop (i + 1)).map (·.2)).sum ≤ bsum b j + B := by
    have s1 : (L.map (·.2)).sum = bsum b j := by simp only [L, List.map_map, Function.comp_def]; exact bsum_list b j
    have s2 : (L.map (·.2)).sum = ((L.take i).map (·.2)).sum + ((L.drop i).map (·.2)).sum := by rw [← List.sum_append, ← List.map_append, List.take_append_drop]
    have s3 : ((L.drop (i + 1)).map (·.2)).sum ≤ ((L.drop i).map (·.2)).sum := by
      rw [List.drop_eq_getElem_cons (show i < L.length by omega), List.map_cons, List.sum_cons]
      omega
    simp only [List.map_append, List.map_cons, List.sum_append, List.sum_cons]
    omega
  rw [e2, show (cols p j).length = j by simp [cols]] at z
  exact IB.mono z (by omega)
/-- all numbers met are of so many bits -/
structure Szs (n m : Nat) (p : Nat → Nat) (l q : Nat → Rw) (w : Nat) : Prop where
  l : ∀ j, j < m → ∀ k, k < n → NB w w (l j k)
  q : ∀ j, j < m → ∀ i, NB w w (q j i)
theorem Spn.det_t (S : Spn n m T p l q) {t : Nat → Rw} {s : Nat → Rat} (W : Whl m T t s) : ∀ j, j ≤ m → dt (cols p j) (rws t j) ≠ 0
  | 0, _ => by show (1 : Rat) ≠ 0; grind
  | j + 1, hj => by
    have ih := S.det_t W j (by omega)
    have d := S.det (j + 1) hj
    have z := S.rest_eq Whl.self (T j) (show j ≤ m by omega) (p j)
    have y := S.rest_eq W (T j) (show j ≤ m by omega) (p j)
    have e : t j = fun k => s j * T j k := funext fun k => W.eq j (by omega) k
    unfold phi at z y
    rw [cols_succ, rws_succ] at d
    rw [← z] at d
    have s0 := W.s0 j (by omega)
    have f := lnr_mul (phi_lnr p t j (p j)) (s j) (T j)
    unfold phi at f
    rw [cols_succ, rws_succ, e, f, ← y]
    intro h
    grind
section
variable {t : Nat → Rw} {s : Nat → Rat} {b : Nat → Nat} {g : Nat} {x y : Rw} {r : Rat} {B w : Nat}
/-- a row whose numbers y are whole, r so many times -/
structure Rwb (x y : Rw) (r : Rat) (B g : Nat) : Prop where
  eq : ∀ k, y k = r * x k
  r0 : r ≠ 0
  y : ∀ k, IB B (y k)
  r : IB g r
theorem Rwb.fn (R : Rwb x y r B g) {φ : Rw → Rat} (h : Lnr φ) : φ y = r * φ x := by
  have e : y = fun k => r * x k := funext R.eq
  rw [e, lnr_mul h]
theorem Spn.rest_nb (S : Spn n m T p l q) (Bt : Bts m T t s b g) (R : Rwb x y r B g) (hm : m < 32) (hw : bsum b m + B + 5 * (m + 1) + 1 + g ≤ w) {j : Nat} (hj : j ≤ m) (c : Nat) : NB w w (rest p l x j c) := by
  have e := S.rest_eq Bt.w x hj c
  have d := S.det_t Bt.w j hj
  have bm := bsum_mono (b := b) hj
  have e2 := R.fn (phi_lnr p t j c)
  refine nb_div (p := phi p t j c y) (q := r * dt (cols p j) (rws t j)) (by rw [e2, ← e]; grind) (IB.mono (phi_bits (fun i hi k => Bt.t i (by omega) k) R.y (by omega)) (by omega)) (IB.mono (R.r.mul (dt_bits (fun i hi k => Bt.t i (by omega) k) (by omega))) (by omega)) ?_
  have := R.r0
  grind
theorem Spn.part_nb (S : Spn n m T p l q) (Bt : Bts m T t s b g) (R : Rwb x y r B g) (hm : m < 32) (hw : bsum b m + B + 5 * (m + 1) + 1 + g ≤ w) {j : Nat} (hj : j ≤ m) (i : Nat) : NB w w (part p l q x j i) := by
  by_cases hi : i < j
  · have e := S.part_eq Bt.w x hj hi
    have d := S.det_t Bt.w j hj
    have bm := bsum_mono (b := b) hj
    have e2 := R.fn (psi_lnr p t j i)
    refine nb_div (p := s i * psi p t j i y) (q := r * dt (cols p j) (rws t j)) (by rw [e2]; grind) (IB.mono ((Bt.s i (by omega)).mul (psi_bits (fun i hi k => Bt.t i (by omega) k) R.y hi (by omega))) (by omega)) (IB.mono (R.r.mul (dt_bits (fun i hi k => Bt.t i (by omega) k) (by omega))) (by omega)) ?_
    have := R.r0
    grind
  · rw [S.part_up x j hj i (by omega)]
    exact ⟨Nat.pow_pos (by decide), Nat.lt_of_lt_of_le (show 1 < 2 ^ 1 by decide) (pow_le2' (by omega))⟩
theorem Spn.newL_nb (S : Spn n m T p l q) (Bt : Bts m T t s b g) (R : Rwb x y r B g) (hm : m < 32) (hw : bsum b m + B + 5 * (m + 1) + 1 + g ≤ w) {c : Nat} (h : rest p l x m c ≠ 0) (k : Nat) : NB w w (newL p l x m c k) := by
  have e := S.rest_eq Bt.w x (Nat.le_refl m) c
  have f := S.rest_eq Bt.w x (Nat.le_refl m) k
  have d := S.det_t Bt.w m (Nat.le_refl m)
  have e2 := R.fn (phi_lnr p t m c)
  have f2 := R.fn (phi_lnr p t m k)
  have r0 := R.r0
  have bt := fun i (hi : i < m) k => Bt.t i hi k
  refine nb_div (p := phi p t m k y) (q := phi p t m c y) ?_ (IB.mono (phi_bits bt R.y hm) (by omega)) (IB.mono (phi_bits bt R.y hm) (by omega)) ?_
  · show rest p l x m k / rest p l x m c * _ = _
    rw [e2, f2, ← e, ← f]
    grind
  · rw [e2, ← e]; grind
theorem Spn.newQ_nb (S : Spn n m T p l q) (Bt : Bts m T t s b g) (R : Rwb x y r B g) (hm : m < 32) (hw : bsum b m + B + 5 * (m + 1) + 1 + g ≤ w) {c : Nat} (h : rest p l x m c ≠ 0) (i : Nat) : NB w w (newQ p l q x m c i) := by
  have e := S.rest_eq Bt.w x (Nat.le_refl m) c
  have d := S.det_t Bt.w m (Nat.le_refl m)
  have e2 := R.fn (phi_lnr p t m c)
  have r0 := R.r0
  have bt := fun i (hi : i < m) k => Bt.t i hi k
  have p0 : phi p t m c y ≠ 0 := by rw [e2, ← e]; grind
  unfold newQ
  split
  · refine nb_div (p := r * dt (cols p m) (rws t m)) (q := phi p t m c y) ?_ (IB.mono (R.r.mul (dt_bits bt (by omega))) (by omega)) (IB.mono (phi_bits bt R.y hm) (by omega)) p0
    rw [e2, ← e]; grind
  · split
    · rename_i hi
      have f := S.part_eq Bt.w x (Nat.le_refl m) hi
      have f2 := R.fn (psi_lnr p t m i)
      refine nb_div (p := - (s i * psi p t m i y)) (q := phi p t m c y) ?_ (IB.mono (IB.neg ((Bt.s i hi).mul (psi_bits bt R.y hi (by omega)))) (by omega)) (IB.mono (phi_bits bt R.y hm) (by omega)) p0
      rw [e2, f2, ← e]
      grind
    · exact ⟨Nat.pow_pos (by decide), Nat.lt_of_lt_of_le (show 1 < 2 ^ 1 by decide) (pow_le2' (by omega))⟩
end
end

/-! ### rows of whole numbers that do not hang on each other (plain) -/
def at' (r : List Int) (k : Nat) : Int := r.getD k 0
/-- what pairs of a number and a row sum up to, at a place -/
def cmb : List (Int × List Int) → Nat → Int
  | [], _ => 0
  | p :: ps, k => p.1 * at' p.2 k + cmb ps k
def Indep (n : Nat) (rs : List (List Int)) : Prop := ∀ ps : List (Int × List Int), ps.map (·.2) = rs → (∀ k, k < n → cmb ps k = 0) → ∀ p ∈ ps, p.1 = 0
theorem cmb_app (ps qs : List (Int × List Int)) (k : Nat) : cmb (ps ++ qs) k = cmb ps k + cmb qs k := by
  induction ps with
  | nil => simp [cmb]
  | cons p ps ih => simp only [List.cons_append, cmb, ih]; omega
theorem cmb_perm {ps qs : List (Int × List Int)} (h : ps.Perm qs) (k : Nat) : cmb ps k = cmb qs k := by
  induction h with
  | nil => rfl
  | cons p _ ih => simp only [cmb, ih]
  | swap p q l => simp only [cmb]; omega
  | trans _ _ a b => exact a.trans b
theorem lift_perm {α β : Type} (f : α → β) {ms ns : List β} (h : ms.Perm ns) : ∀ ps : List α, ps.map f = ms → ∃ qs : List α, qs.map f = ns ∧ ps.Perm qs := by
  induction h with
  | nil => exact fun ps e => ⟨ps, e, List.Perm.refl _⟩
  | cons b _ ih =>
    intro ps e
    match ps, e with
    | p :: ps, e =>
      simp only [List.map_cons, List.cons.injEq] at e
      obtain ⟨qs, a, b⟩ := ih ps e.2
      exact ⟨p :: qs, by rw [List.map_cons, e.1, a], b.cons p⟩
  | swap a b l =>
    intro ps e
    match ps, e with
    | p :: q :: ps, e =>
      simp only [List.map_cons, List.cons.injEq] at e
      exact ⟨q :: p :: ps, by simp only [List.map_cons, e.1, e.2.1, e.2.2], List.Perm.swap q p ps⟩
  | trans _ _ ih1 ih2 =>
    intro ps e
    obtain ⟨qs, a, b⟩ := ih1 ps e
    obtain ⟨rs, c, d⟩ := ih2 qs a
    exact ⟨rs, c, b.trans d⟩
theorem Indep.perm {n : Nat} {rs ss : List (List Int)} (h : Indep n rs) (e : rs.Perm ss) : Indep n ss := fun ps hp hz p hm => by
  obtain ⟨qs, a, b⟩ := lift_perm (·.2) e.symm ps hp
  exact h qs a (fun k hk => by rw [← cmb_perm b]; exact hz k hk) p (b.mem_iff.mp hm)
/-- one row against another one, so that a place is nought -/
def crossR (p : Nat) (h x : List Int) : List Int := List.zipWith (fun a b => at' h p * a - at' x p * b) x h
theorem at_zip {f : Int → Int → Int} (h0 : f 0 0 = 0) {x y : List Int} (hl : x.length = y.length) (k : Nat) : at' (List.zipWith f x y) k = f (at' x k) (at' y k) := by
  unfold at'
  simp only [List.getD_eq_getElem?_getD]
  by_cases hk : k < x.length
  · have hy : k < y.length := by omega
    have hz : k < (List.zipWith f x y).length := by rw [List.length_zipWith]; omega
    rw [List.getElem?_eq_getElem hz, List.getElem?_eq_getElem hk, List.getElem?_eq_getElem hy, List.getElem_zipWith]
    rfl
  · rw [List.getElem?_eq_none (by rw [List.length_zipWith]; omega), List.getElem?_eq_none (by omega), List.getElem?_eq_none (by omega)]
    exact h0.symm
theorem cross_at {p : Nat} {h x : List Int} (hl : x.length = h.length) (k : Nat) : at' (crossR p h x) k = at' h p * at' x k - at' x p * at' h k := at_zip (by simp) hl k
theorem map_split {α β : Type} (f : α → β) : ∀ {ps : List α} {as bs : List β}, ps.map f = as ++ bs → ∃ qs rs, ps = qs ++ rs ∧ qs.map f = as ∧ rs.map f = bs
  | ps, [], bs, e => ⟨[], ps, rfl, rfl, e⟩
  | p :: ps, a :: as, bs, e => by
    simp only [List.map_cons, List.cons_append, List.cons.injEq] at e
    obtain ⟨qs, rs, e1, e2, e3⟩ := map_split f e.2
    exact ⟨p :: qs, rs, by rw [e1]; rfl, by rw [List.map_cons, e.1, e2], e3⟩
  | [], a :: as, bs, e => by simp at e
theorem cmb_scale (c : Int) (ps : List (Int × List Int)) (k : Nat) : cmb (ps.map fun p => (c * p.1, p.2)) k = c * cmb ps k := by
  induction ps with
  | nil => simp [cmb]
  | cons p ps ih => simp only [List.map_cons, cmb, ih, Int.mul_add, Int.mul_assoc]
/-- what the crossed rows sum up to -/
theorem cmb_cross {n p : Nat} {h : List Int} (hh : h.length = n) : ∀ (ps : List (Int × List Int)), (∀ q ∈ ps, q.2.length = n) → ∀ k, cmb (ps.map fun q => (q.1, crossR p h q.2)) k = at' h p * cmb ps k - cmb ps p * at' h k
  | [], _, k => by simp [cmb]
  | q :: ps, hq, k => by
    have ih := cmb_cross (p := p) hh ps (fun x hx => hq x (List.mem_cons_of_mem _ hx)) k
    have hl : q.2.length = h.length := by rw [hh]; exact hq q List.mem_cons_self
    simp only [List.map_cons, cmb, ih, cross_at hl, Int.mul_sub, Int.mul_add, Int.add_mul]
    rw [show q.1 * (at' h p * at' q.2 k) = at' h p * (q.1 * at' q.2 k) by rw [← Int.mul_assoc, Int.mul_comm q.1, Int.mul_assoc], ← Int.mul_assoc q.1 (at' q.2 p)]
    omega
theorem cmb_zero {ps : List (Int × List Int)} {p : Nat} (h : ∀ q ∈ ps, at' q.2 p = 0) : cmb ps p = 0 := by
  induction ps with
  | nil => rfl
  | cons q ps ih => simp only [cmb, h q List.mem_cons_self, ih fun x hx => h x (List.mem_cons_of_mem _ hx), Int.mul_zero, Int.add_zero]
/-- a head taken out, the other heads crossed with it -/
theorem indep_step {n p : Nat} {h : List Int} {hs rest : List (List Int)} (hp : p < n) (h0 : at' h p ≠ 0) (hh : h.length = n) (hl : ∀ x ∈ hs, x.length = n) (hr : ∀ x ∈ rest, at' x p = 0) :
    Indep n (h :: hs ++ rest) ↔ Indep n (rest ++ hs.map (crossR p h)) := by
  constructor
  · intro I
    refine Indep.perm (rs := hs.map (crossR p h) ++ rest) (fun ps e hz => ?_) List.perm_append_comm
    obtain ⟨qs, es, rfl, e1, e2⟩ := map_split (fun q : Int × List Int => q.2) e
    -- the pairs over hs
    have back : ∀ (hs : List (List Int)) (qs : List (Int × List Int)), qs.map (·.2) = hs.map (crossR p h) → ∃ bs : List (Int × List Int), bs.map (·.2) = hs ∧ qs = bs.map fun q => (q.1, crossR p h q.2) := by
      intro hs
      induction hs with
      | nil => intro qs e; exact ⟨[], rfl, by simpa using e⟩
      | cons x hs ih =>
        intro qs e
        match qs, e with
        | q :: qs, e =>
          simp only [List.map_cons, List.cons.injEq] at e
          obtain ⟨bs, a, b⟩ := ih qs e.2
          exact ⟨(q.1, x) :: bs, by rw [List.map_cons, a], by rw [List.map_cons, ← b, ← e.1]⟩
    obtain ⟨bs, b1, rfl⟩ := back hs qs e1
    have bl : ∀ q ∈ bs, q.2.length = n := fun q hq => hl _ (b1 ▸ List.mem_map_of_mem hq)
    have key := I ((- cmb bs p, h) :: (bs.map fun q => (at' h p * q.1, q.2)) ++ es) (by simp only [List.cons_append, List.map_cons, List.map_append, List.map_map, e2, ← b1]; rfl) fun k hk => by
      have z := hz k hk
      rw [cmb_app, cmb_cross hh bs bl k] at z
      rw [cmb_app]
      simp only [cmb, cmb_scale]
      rw [Int.neg_mul]
      omega
    intro q hq
    rcases List.mem_append.mp hq with hq | hq
    · obtain ⟨b, hb, rfl⟩ := List.mem_map.mp hq
      have := key (at' h p * b.1, b.2) (by simp only [List.cons_append, List.mem_cons, List.mem_append]; exact .inr (.inl (List.mem_map.mpr ⟨b, hb, rfl⟩)))
      exact (Int.mul_eq_zero.mp this).resolve_left h0
    · exact key q (by simp only [List.cons_append, List.mem_cons, List.mem_append]; exact .inr (.inr hq))
  · intro I ps e hz
    obtain ⟨a, ps, rfl, e'⟩ : ∃ a qs, ps = (a, h) :: qs ∧ qs.map (·.2) = hs ++ rest := by
      match ps, e with
      | q :: qs, e =>
        simp only [List.map_cons, List.cons_append, List.cons.injEq] at e
        exact ⟨q.1, qs, by rw [← e.1], e.2⟩
    obtain ⟨bs, es, rfl, e1, e2⟩ := map_split (fun q : Int × List Int => q.2) e'
    have bl : ∀ q ∈ bs, q.2.length = n := fun q hq => hl _ (e1 ▸ List.mem_map_of_mem hq)
    have ez : cmb es p = 0 := cmb_zero fun q hq => hr _ (e2 ▸ List.mem_map_of_mem hq)
    have atp : a * at' h p + cmb bs p = 0 := by
      have z := hz p hp
      simp only [cmb, cmb_app, ez] at z
      omega
    have key := I ((es.map fun q => (at' h p * q.1, q.2)) ++ bs.map fun q => (q.1, crossR p h q.2)) (by simp only [List.map_append, List.map_map, ← e1, ← e2]; rfl) fun k hk => by
      have z := hz k hk
      simp only [cmb, cmb_app] at z
      rw [cmb_app, cmb_cross hh bs bl k, cmb_scale]
      have w : at' h p * (a * at' h k + (cmb bs k + cmb es k)) = 0 := by rw [z, Int.mul_zero]
      have v : (a * at' h p + cmb bs p) * at' h k = 0 := by rw [atp, Int.zero_mul]
      rw [Int.mul_add, Int.mul_add, ← Int.mul_assoc, Int.mul_comm (at' h p) a] at w
      rw [Int.add_mul] at v
      omega
    have kb : ∀ q ∈ bs, q.1 = 0 := fun q hq => key (q.1, crossR p h q.2) (List.mem_append_right _ (List.mem_map.mpr ⟨q, hq, rfl⟩))
    have ke : ∀ q ∈ es, q.1 = 0 := fun q hq => (Int.mul_eq_zero.mp (key (at' h p * q.1, q.2) (List.mem_append_left _ (List.mem_map.mpr ⟨q, hq, rfl⟩)))).resolve_left h0
    have cb : cmb bs p = 0 := by
      clear atp key ke ez hz e e' e1 bl e2
      induction bs with
      | nil => rfl
      | cons q bs ih => simp only [cmb, kb q List.mem_cons_self, ih fun x hx => kb x (List.mem_cons_of_mem _ hx), Int.zero_mul, Int.add_zero]
    have ka : a = 0 := by
      rw [cb, Int.add_zero] at atp
      exact (Int.mul_eq_zero.mp atp).resolve_right h0
    intro q hq
    rcases List.mem_cons.mp hq with rfl | hq
    · exact ka
    · rcases List.mem_append.mp hq with hq | hq
      · exact kb q hq
      · exact ke q hq
/-! the law's own count -/
def headsR (p : Nat) (left : List (List Int)) : List (List Int) := left.filter fun r => !decide (at' r p = 0)
def restR (p : Nat) (left : List (List Int)) : List (List Int) := left.filter fun r => decide (at' r p = 0)
def rkS (p : Nat) (s : List (List Int) × Nat) : List (List Int) × Nat :=
  match headsR p s.1 with
  | [] => (restR p s.1, s.2)
  | h :: hs => (restR p s.1 ++ hs.map (crossR p h), s.2 + 1)
def rkL (rows : List (List Int)) : Nat → List (List Int) × Nat
  | 0 => (rows, 0)
  | p + 1 => rkS p (rkL rows p)
theorem heads_rest (p : Nat) (left : List (List Int)) : (headsR p left ++ restR p left).Perm left := by
  induction left with
  | nil => exact List.Perm.refl _
  | cons r left ih =>
    unfold headsR restR at ih ⊢
    by_cases h : at' r p = 0
    · rw [List.filter_cons_of_neg (by simp [h]), List.filter_cons_of_pos (by simp [h])]
      exact List.perm_middle.trans (ih.cons r)
    · rw [List.filter_cons_of_pos (by simp [h]), List.filter_cons_of_neg (by simp [h])]
      exact ih.cons r
structure RkI (n : Nat) (rows : List (List Int)) (p : Nat) (s : List (List Int) × Nat) : Prop where
  len : ∀ r ∈ s.1, r.length = n
  zero : ∀ r ∈ s.1, ∀ k, k < p → at' r k = 0
  sum : s.1.length + s.2 = rows.length
  ind : Indep n rows ↔ Indep n s.1
theorem rk_inv {n : Nat} {rows : List (List Int)} (hl : ∀ r ∈ rows, r.length = n) : ∀ p, p ≤ n → RkI n rows p (rkL rows p)
  | 0, _ => ⟨hl, fun r _ k hk => absurd hk (Nat.not_lt_zero k), rfl, Iff.rfl⟩
  | p + 1, hp => by
    have I := rk_inv hl p (by omega)
    show RkI n rows (p + 1) (rkS p (rkL rows p))
    generalize rkL rows p = s at I
    have hr := heads_rest p s.1
    have hm : ∀ r, r ∈ headsR p s.1 → r ∈ s.1 ∧ at' r p ≠ 0 := fun r h => by
      obtain ⟨a, b⟩ := List.mem_filter.mp h
      exact ⟨a, by simpa using b⟩
    have rm : ∀ r, r ∈ restR p s.1 → r ∈ s.1 ∧ at' r p = 0 := fun r h => by
      obtain ⟨a, b⟩ := List.mem_filter.mp h
      exact ⟨a, by simpa using b⟩
    have zr : ∀ r ∈ restR p s.1, ∀ k, k < p + 1 → at' r k = 0 := fun r h k hk => by
      by_cases e : k = p
      · rw [e]; exact (rm r h).2
      · exact I.zero r (rm r h).1 k (by omega)
    unfold rkS
    cases e : headsR p s.1 with
    | nil =>
      rw [e, List.nil_append] at hr
      exact ⟨fun r h => I.len r (rm r h).1, zr, by rw [hr.length_eq]; exact I.sum, I.ind.trans ⟨fun x => x.perm hr.symm, fun x => x.perm hr⟩⟩
    | cons h hs =>
      rw [e] at hr hm
      have hh := hm h List.mem_cons_self
      have hx : ∀ x ∈ hs, x.length = n := fun x hx => I.len x (hm x (List.mem_cons_of_mem _ hx)).1
      have hn := I.len h hh.1
      refine ⟨fun r hr' => ?_, fun r hr' k hk => ?_, ?_, ?_⟩
      · rcases List.mem_append.mp hr' with q | q
        · exact I.len r (rm r q).1
        · obtain ⟨x, hx', rfl⟩ := List.mem_map.mp q
          unfold crossR
          rw [List.length_zipWith, hx x hx', hn, Nat.min_self]
      · rcases List.mem_append.mp hr' with q | q
        · exact zr r q k hk
        · obtain ⟨x, hx', rfl⟩ := List.mem_map.mp q
          rw [cross_at (by rw [hx x hx', hn])]
          by_cases ek : k = p
          · subst ek
            rw [Int.mul_comm]; omega
          · rw [I.zero x (hm x (List.mem_cons_of_mem _ hx')).1 k (by omega), I.zero h hh.1 k (by omega)]
            simp
      · have l1 := hr.length_eq
        have l2 := I.sum
        simp only [List.length_append, List.length_cons, List.length_map] at l1 ⊢
        omega
      · refine I.ind.trans (Iff.trans ⟨fun x => x.perm hr.symm, fun x => x.perm hr⟩ (indep_step (by omega) hh.2 hn hx fun x h => (rm x h).2))
def rankR (n : Nat) (rows : List (List Int)) : Nat := (rkL rows n).2
theorem rank_le {n : Nat} {rows : List (List Int)} (hl : ∀ r ∈ rows, r.length = n) : rankR n rows ≤ rows.length := by
  have I := rk_inv hl n (Nat.le_refl n)
  have := I.sum
  unfold rankR
  omega
theorem rank_full {n : Nat} {rows : List (List Int)} (hl : ∀ r ∈ rows, r.length = n) : rankR n rows = rows.length ↔ Indep n rows := by
  have I := rk_inv hl n (Nat.le_refl n)
  have s := I.sum
  rw [I.ind]
  unfold rankR
  constructor
  · intro e
    have : (rkL rows n).1 = [] := List.eq_nil_of_length_eq_zero (by omega)
    rw [this]
    intro ps hp _ p hm
    have : ps = [] := by simpa using hp
    rw [this] at hm
    cases hm
  · intro h
    cases e : (rkL rows n).1 with
    | nil => rw [e] at s; simpa using s
    | cons r rs =>
      rw [e] at h
      have z := I.zero
      rw [e] at z
      have := h ((1, r) :: rs.map fun x => (0, x)) (by simp [Function.comp_def]) (fun k hk => by
        simp only [cmb, z r List.mem_cons_self k hk]
        have : ∀ xs : List (List Int), cmb (xs.map fun x => ((0 : Int), x)) k = 0 := fun xs => by
          induction xs with
          | nil => rfl
          | cons x xs ih => simp only [List.map_cons, cmb, ih]; omega
        rw [this]; rfl) (1, r) List.mem_cons_self
      cases this

/-! ### rows of whole numbers as fractions (plain) -/
def rowF (rs : List (List Int)) (i : Nat) : Rw := fun k => ((at' (rs.getD i []) k : Int) : Rat)
theorem getD_app_lt {α : Type} {xs ys : List α} {i : Nat} {d : α} (h : i < xs.length) : (xs ++ ys).getD i d = xs.getD i d := by
  simp only [List.getD_eq_getElem?_getD]
  rw [List.getElem?_append_left h]
theorem getD_app_eq {α : Type} {xs : List α} {y d : α} : (xs ++ [y]).getD xs.length d = y := by
  simp only [List.getD_eq_getElem?_getD]
  simp
theorem cmb_sm (ps : List (Int × List Int)) (k : Nat) : ((cmb ps k : Int) : Rat) = sm (fun i => (((ps.map (·.1)).getD i 0 : Int) : Rat) * rowF (ps.map (·.2)) i k) ps.length := by
  induction h : ps.length generalizing ps with
  | zero =>
    have : ps = [] := List.eq_nil_of_length_eq_zero h
    subst this
    rfl
  | succ m ih =>
    obtain ⟨qs, p, rfl⟩ : ∃ qs p, ps = qs ++ [p] := ⟨ps.dropLast, ps.getLast (by intro e; simp [e] at h), (List.dropLast_concat_getLast _).symm⟩
    have hm : qs.length = m := by simpa using h
    subst hm
    have i := ih qs rfl
    rw [cmb_app]
    show _ = sm _ qs.length + _
    have e1 : (List.map (·.1) (qs ++ [p])).getD qs.length 0 = p.1 := by
      have := getD_app_eq (xs := qs.map (·.1)) (y := p.1) (d := 0)
      simpa using this
    have e2 : (List.map (·.2) (qs ++ [p])).getD qs.length [] = p.2 := by
      have := getD_app_eq (xs := qs.map (·.2)) (y := p.2) (d := [])
      simpa using this
    rw [sm_congr (g := fun i => (((qs.map (·.1)).getD i 0 : Int) : Rat) * rowF (qs.map (·.2)) i k) fun i hi => by
      unfold rowF
      rw [List.map_append, List.map_append, getD_app_lt (by simpa using hi), getD_app_lt (by simpa using hi)], ← i]
    dsimp only
    rw [e1]
    unfold rowF
    rw [e2, show cmb [p] k = p.1 * at' p.2 k from by simp [cmb], Rat.intCast_add, Rat.intCast_mul]
theorem clear_dens (c : Nat → Rat) : ∀ m, ∃ N : Int, N ≠ 0 ∧ ∀ i, i < m → ∃ a : Int, (N : Rat) * c i = (a : Rat)
  | 0 => ⟨1, by decide, fun i h => by omega⟩
  | m + 1 => by
    obtain ⟨N, h0, h⟩ := clear_dens c m
    have d0 := (c m).den_nz
    have cr : c m * (((c m).den : Int) : Rat) = ((c m).num : Rat) := by
      have h1 : c m = ((c m).num : Rat) / (((c m).den : Int) : Rat) := by rw [← Rat.divInt_eq_div, Rat.num_divInt_den]
      have h2 : (((c m).den : Int) : Rat) ≠ 0 := by
        intro z
        have := Rat.intCast_inj.mp (z.trans Rat.intCast_zero.symm)
        omega
      generalize ((c m).num : Rat) = N at *
      generalize (((c m).den : Int) : Rat) = E at *
      rw [h1]
      grind
    refine ⟨N * ((c m).den : Int), Int.mul_ne_zero h0 (by omega), fun i hi => ?_⟩
    by_cases e : i = m
    · subst e
      exact ⟨N * (c i).num, by rw [Rat.intCast_mul, Rat.intCast_mul, ← cr]; grind⟩
    · obtain ⟨a, ha⟩ := h i (by omega)
      exact ⟨a * ((c m).den : Int), by rw [Rat.intCast_mul, Rat.intCast_mul, ← ha]; grind⟩
theorem indep_free {n : Nat} {rs : List (List Int)} (I : Indep n rs) : Free n rs.length (rowF rs) := fun c hc i hi => by
  obtain ⟨N, N0, hN⟩ := clear_dens c rs.length
  have N0' : (N : Rat) ≠ 0 := fun z => N0 (Rat.intCast_inj.mp (z.trans Rat.intCast_zero.symm))
  obtain ⟨a, ha⟩ : ∃ a : Nat → Int, ∀ i, i < rs.length → (N : Rat) * c i = (a i : Rat) := ⟨fun i => if h : i < rs.length then (hN i h).choose else 0, fun i h => by
    dsimp only
    rw [dif_pos h]
    exact (hN i h).choose_spec⟩
  let ps : List (Int × List Int) := (List.range rs.length).map fun i => (a i, rs.getD i [])
  have hp : ps.map (·.2) = rs := by
    apply List.ext_getElem
    · simp [ps]
    · intro j h1 h2
      simp [ps, List.getD, h2]
  have h1 : ∀ j, j < rs.length → (ps.map (·.1)).getD j 0 = a j := fun j hj => by
    simp [ps, List.getD, hj]
  have z := I ps hp fun k hk => by
    have e := cmb_sm ps k
    rw [hp, show ps.length = rs.length by simp [ps], sm_congr (g := fun i => (N : Rat) * (c i * rowF rs i k)) fun j hj => by rw [h1 j hj, ← ha j hj]; grind, sm_mul] at e
    have := hc k hk
    unfold cb at this
    rw [this] at e
    have : ((cmb ps k : Int) : Rat) = ((0 : Int) : Rat) := by rw [e]; grind
    exact Rat.intCast_inj.mp this
  have zi := z (a i, rs.getD i []) (List.mem_map.mpr ⟨i, List.mem_range.mpr hi, rfl⟩)
  have := ha i hi
  rw [show a i = 0 from zi] at this
  have e0 : ((0 : Int) : Rat) = 0 := rfl
  rw [e0] at this
  grind
theorem free_indep {n : Nat} {rs : List (List Int)} (I : Free n rs.length (rowF rs)) : Indep n rs := fun ps hp hz p hm => by
  have hl : ps.length = rs.length := by rw [← hp, List.length_map]
  have z := I (fun i => (((ps.map (·.1)).getD i 0 : Int) : Rat)) fun k hk => by
    have e := cmb_sm ps k
    rw [hz k hk, hp, hl] at e
    exact e.symm
  obtain ⟨i, hi, rfl⟩ := List.mem_iff_getElem.mp hm
  have := z i (by omega)
  have e : (ps.map (·.1)).getD i 0 = ps[i].1 := by simp [List.getD, hi]
  rw [e] at this
  exact Rat.intCast_inj.mp (this.trans Rat.intCast_zero.symm)
theorem free_scale {n m : Nat} {T t : Nat → Rw} {s : Nat → Rat} (W : Whl m T t s) (h : Free n m T) : Free n m t := fun c hc i hi => by
  have z := h (fun i => c i * s i) (fun k hk => by
    rw [← hc k hk]
    exact sm_congr fun i hi => by rw [W.eq i hi k]; grind) i hi
  have s0 := W.s0 i hi
  grind
theorem rk_le_place {rows : List (List Int)} : ∀ p, (rkL rows p).2 ≤ p
  | 0 => Nat.le_refl 0
  | p + 1 => by
    have ih := rk_le_place (rows := rows) p
    show (rkS p (rkL rows p)).2 ≤ p + 1
    unfold rkS
    split
    · exact Nat.le_succ_of_le ih
    · exact Nat.succ_le_succ ih
/-- free rows are no more than the places -/
theorem free_few {n : Nat} {rs : List (List Int)} (hl : ∀ r ∈ rs, r.length = n) (I : Free n rs.length (rowF rs)) : rs.length ≤ n := by
  have := (rank_full hl).mpr (free_indep I)
  rw [← this]
  exact rk_le_place n
/-- the law's rank and what is left of a row -/
theorem rank_link {n : Nat} {tops : List (List Int)} {xs : List Int} {T : Nat → Rw} {s : Nat → Rat} {p : Nat → Nat} {l q : Nat → Rw} {x : Rw} {r : Rat} (S : Spn n tops.length T p l q) (W : Whl tops.length T (rowF tops) s) (hl : ∀ r ∈ tops ++ [xs], r.length = n) (r0 : r ≠ 0) (hx : ∀ k, ((at' xs k : Int) : Rat) = r * x k) :
    (tops.length < rankR n (tops ++ [xs]) ↔ ∃ c, c < n ∧ rest p l x tops.length c ≠ 0) := by
  have le := rank_le hl
  have full := rank_full hl
  have len : (tops ++ [xs]).length = tops.length + 1 := by simp
  have old : ∀ i, i < tops.length → rowF (tops ++ [xs]) i = rowF tops i := fun i hi => by
    unfold rowF
    rw [getD_app_lt hi]
  have new : rowF (tops ++ [xs]) tops.length = fun k => ((at' xs k : Int) : Rat) := by
    unfold rowF
    rw [getD_app_eq]
  constructor
  · intro h
    have I := indep_free (full.mp (by omega))
    rw [len] at I
    apply Classical.byContradiction
    intro no
    have hz : ∀ k, k < n → rest p l x tops.length k = 0 := fun k hk => Classical.byContradiction fun z => no ⟨k, hk, z⟩
    obtain ⟨c, hc⟩ := S.hangs_of hz
    have z := I (fun i => if i = tops.length then 1 else - (c i * r / s i)) (fun k hk => by
      show sm _ tops.length + _ * rowF (tops ++ [xs]) tops.length k = 0
      rw [new]
      dsimp only
      rw [if_pos rfl, sm_congr (g := fun i => (- r) * (c i * T i k)) fun i hi => by
        rw [if_neg (by omega), old i hi, W.eq i hi k]
        have := W.s0 i hi
        grind, sm_mul, hx k, hc k hk]
      unfold cb
      grind) tops.length (by omega)
    rw [if_pos rfl] at z
    grind
  · rintro ⟨c, hc, hne⟩
    have S2 := S.put hc hne
    have W2 : Whl (tops.length + 1) (upd1 T tops.length x) (rowF (tops ++ [xs])) (upd1 s tops.length r) := ⟨fun i hi k => by
      by_cases e : i = tops.length
      · subst e
        rw [new, upd1_at, upd1_at]
        exact hx k
      · rw [old i (by omega), upd1_ne e, upd1_ne e]
        exact W.eq i (by omega) k, fun i hi => by
      by_cases e : i = tops.length
      · subst e
        rw [upd1_at]; exact r0
      · rw [upd1_ne e]; exact W.s0 i (by omega)⟩
    have F := free_scale W2 S2.free
    rw [← len] at F
    have := full.mpr (free_indep F)
    omega

/-! ### shares as fractions -/
def shq (x : Rat) : D := sh (x.num, (x.den : Int))
theorem rat_cross (x : Rat) : x * ((x.den : Int) : Rat) = (x.num : Rat) := by
  have h1 : x = (x.num : Rat) / ((x.den : Int) : Rat) := by rw [← Rat.divInt_eq_div, Rat.num_divInt_den]
  have h2 : ((x.den : Int) : Rat) ≠ 0 := by
    intro z
    have := Rat.intCast_inj.mp (z.trans Rat.intCast_zero.symm)
    have := x.den_nz
    omega
  generalize (x.num : Rat) = N at *
  generalize ((x.den : Int) : Rat) = E at *
  subst h1
  grind
theorem cast_ne {b : Int} (h : b ≠ 0) : (b : Rat) ≠ 0 := fun z => h (Rat.intCast_inj.mp (z.trans Rat.intCast_zero.symm))
theorem mkS_rat {t b : Int} (hb : b ≠ 0) {x : Rat} (h : x * (b : Rat) = (t : Rat)) : mkS t b = (x.num, (x.den : Int)) := by
  refine mkS_unique hb (by have := x.den_nz; omega) (by rw [Int.natAbs_natCast]; exact x.reduced) ?_
  have c := rat_cross x
  have b0 := cast_ne hb
  apply Rat.intCast_inj.mp
  rw [Rat.intCast_mul, Rat.intCast_mul, ← h, ← c]
  grind
theorem shq_mk {t b : Int} (hb : b ≠ 0) : sh (mkS t b) = shq ((t : Rat) / (b : Rat)) := by
  have b0 := cast_ne hb
  rw [mkS_rat hb (x := (t : Rat) / (b : Rat)) (by grind)]
  rfl
theorem shq_inj {x y : Rat} (h : shq x = shq y) : x = y := by
  unfold shq at h
  simp only [sh, D.tup.injEq, List.cons.injEq, D.int.injEq, and_true] at h
  exact Rat.ext h.1 (by omega)
theorem shq_zero : shq 0 = sh (0, 1) := rfl
theorem shq_one : shq 1 = sh (1, 1) := rfl
/-- a fraction that is not too great -/
theorem NB.sz {w : Nat} {x : Rat} (h : NB w w x) (h0 : 0 < w) : Sz w (x.num, (x.den : Int)) := ⟨h0, h.1, by rw [Int.natAbs_natCast]; exact h.2⟩
theorem two_q {x y : Rat} {a b : Nat} (h : NB a a x) (k : NB b b y) (ha : 0 < a) (hb : 0 < b) (hl : a + b ≤ LIM) : Two [shq x, shq y] (x.num, (x.den : Int)) (y.num, (y.den : Int)) :=
  ⟨rfl, by have := x.den_nz; show (x.den : Int) ≠ 0; omega, by have := y.den_nz; show (y.den : Int) ≠ 0; omega, a, b, h.sz ha, k.sz hb, hl⟩
theorem den_ne (x : Rat) : (x.den : Int) ≠ 0 := by have := x.den_nz; omega
theorem plus_q (x y : Rat) : sh (plusS (x.num, (x.den : Int)) (y.num, (y.den : Int))) = shq (x + y) := by
  have c := rat_cross x
  have d := rat_cross y
  unfold plusS shq
  rw [mkS_rat (x := x + y) (Int.mul_ne_zero (den_ne x) (den_ne y)) (by simp only [Rat.intCast_mul, Rat.intCast_add, ← c, ← d]; grind)]
theorem less_q (x y : Rat) : sh (lessS (x.num, (x.den : Int)) (y.num, (y.den : Int))) = shq (x - y) := by
  have c := rat_cross x
  have d := rat_cross y
  unfold lessS shq
  rw [mkS_rat (x := x - y) (Int.mul_ne_zero (den_ne x) (den_ne y)) (by simp only [Rat.intCast_mul, Rat.intCast_sub, ← c, ← d]; grind)]
theorem times_q (x y : Rat) : sh (timesS (x.num, (x.den : Int)) (y.num, (y.den : Int))) = shq (x * y) := by
  have c := rat_cross x
  have d := rat_cross y
  unfold timesS shq
  rw [mkS_rat (x := x * y) (Int.mul_ne_zero (den_ne x) (den_ne y)) (by simp only [Rat.intCast_mul, ← c, ← d]; grind)]
theorem num_ne {y : Rat} (h : y ≠ 0) : y.num ≠ 0 := fun z => h (Rat.num_eq_zero.mp z)
theorem over_q (x : Rat) {y : Rat} (hy : y ≠ 0) : sh (overS (x.num, (x.den : Int)) (y.num, (y.den : Int))) = shq (x / y) := by
  have c := rat_cross x
  have d := rat_cross y
  have n := num_ne hy
  unfold overS shq
  rw [mkS_rat (x := x / y) (Int.mul_ne_zero (den_ne x) n) (by simp only [Rat.intCast_mul, ← c, ← d]; grind)]
theorem NB.neg {a b : Nat} {x : Rat} (h : NB a b x) : NB a b (-x) := ⟨by rw [Rat.neg_num, Int.natAbs_neg]; exact h.1, by rw [Rat.neg_den]; exact h.2⟩
theorem nb_num (x : Rat) {a b : Nat} (h : NB a b x) : IB a (x.num : Rat) ∧ IB b ((x.den : Int) : Rat) := ⟨⟨x.num, rfl, h.1⟩, ⟨x.den, rfl, by rw [Int.natAbs_natCast]; exact h.2⟩⟩
theorem den_rat (x : Rat) : ((x.den : Int) : Rat) ≠ 0 := cast_ne (den_ne x)
theorem NB.mul {a b c d : Nat} {x y : Rat} (h : NB a b x) (k : NB c d y) : NB (a + c) (b + d) (x * y) := by
  obtain ⟨h1, h2⟩ := nb_num x h
  obtain ⟨k1, k2⟩ := nb_num y k
  refine nb_div (p := (x.num : Rat) * (y.num : Rat)) (q := ((x.den : Int) : Rat) * ((y.den : Int) : Rat)) ?_ (h1.mul k1) (h2.mul k2) ?_
  · rw [← rat_cross x, ← rat_cross y]; grind
  · have := den_rat x
    have := den_rat y
    grind
theorem IB.add {a b : Nat} {x y : Rat} (h : IB a x) (k : IB b y) (e : b ≤ a) : IB (a + 1) (x + y) := by
  have := (h.ic.add (k.mono e).ic).ib (v := 1) (by decide)
  exact this
theorem NB.add {a b c d : Nat} {x y : Rat} (h : NB a b x) (k : NB c d y) : NB (a + b + c + d + 1) (b + d) (x + y) := by
  obtain ⟨h1, h2⟩ := nb_num x h
  obtain ⟨k1, k2⟩ := nb_num y k
  refine nb_div (p := (x.num : Rat) * ((y.den : Int) : Rat) + (y.num : Rat) * ((x.den : Int) : Rat)) (q := ((x.den : Int) : Rat) * ((y.den : Int) : Rat)) ?_ (((h1.mul k2).mono (show a + d ≤ a + b + c + d by omega)).add (k1.mul h2) (by omega)) (h2.mul k2) ?_
  · rw [← rat_cross x, ← rat_cross y]; grind
  · have := den_rat x
    have := den_rat y
    grind
theorem nb_zero {a b : Nat} (h : 0 < b) : NB a b 0 := ⟨Nat.pow_pos (by decide), Nat.lt_of_lt_of_le (show 1 < 2 ^ 1 by decide) (pow_le2' h)⟩
theorem nb_one {a b : Nat} (ha : 0 < a) (h : 0 < b) : NB a b 1 := ⟨Nat.lt_of_lt_of_le (show 1 < 2 ^ 1 by decide) (pow_le2' ha), Nat.lt_of_lt_of_le (show 1 < 2 ^ 1 by decide) (pow_le2' h)⟩
/-! rows of fractions -/
def rowQ (n : Nat) (v : Rw) : D := .lst ((List.range n).map fun k => shq (v k))
theorem rowQ_congr {n : Nat} {v u : Rw} (h : ∀ k, k < n → v k = u k) : rowQ n v = rowQ n u := congrArg D.lst (List.map_congr_left fun k hk => by rw [h k (List.mem_range.mp hk)])
theorem rowQ_inj {n : Nat} {v u : Rw} (h : rowQ n v = rowQ n u) : ∀ k, k < n → v k = u k := fun k hk => by
  have e : (List.range n).map (fun k => shq (v k)) = (List.range n).map fun k => shq (u k) := D.lst.inj h
  have := congrArg (fun l => l[k]?) e
  simp only [List.getElem?_map, List.getElem?_range hk, Option.map_some, Option.some.injEq] at this
  exact shq_inj this
theorem rowQ_at {n k : Nat} (v : Rw) (h : k < n) : atI ((List.range n).map fun k => shq (v k)) (k : Int) = some (shq (v k)) := by
  rw [atI_nat' (by simpa using h), List.getElem_map, List.getElem_range]
theorem isSh_q (x : Rat) : isSh (shq x) = true := by
  show (decide ((0 : Int) < x.den) && decide (Nat.gcd x.num.natAbs (x.den : Int).toNat = 1)) = true
  rw [decide_eq_true (by have := x.den_nz; omega), decide_eq_true (by rw [Int.toNat_natCast]; exact x.reduced)]
  rfl
theorem isRow_q (n : Nat) (v : Rw) : isRow n (rowQ n v) = true := by
  show (decide (((List.range n).map fun k => shq (v k)).length = n) && ((List.range n).map fun k => shq (v k)).all isSh) = true
  rw [decide_eq_true (by simp), Bool.true_and, List.all_map, List.all_eq_true]
  exact fun k _ => isSh_q _
theorem rowK_q {n : Nat} (v : Rw) (h : n ≤ 1000) : RowK (rowQ n v) := ⟨⟨_, rfl⟩, fun es e => by
  cases e
  refine ⟨by simpa using h, fun d hd => ?_⟩
  obtain ⟨k, _, rfl⟩ := List.mem_map.mp hd
  exact ⟨⟨_, rfl⟩, fun a b h => by cases h; exact ⟨⟨_, rfl⟩, _, rfl⟩⟩⟩
theorem zp_q (n m : Nat) (v u : Rw) : zp ((List.range n).map fun k => shq (v k)) ((List.range m).map fun k => shq (u k)) = (List.range (min n m)).map fun k => D.tup [shq (v k), shq (u k)] := by
  unfold zp
  apply List.ext_getElem?
  intro k
  simp only [List.getElem?_map]
  by_cases hk : k < min n m
  · have h1 : k < n := by omega
    have h2 : k < m := by omega
    rw [List.getElem?_range hk]
    have z : (((List.range n).map fun k => shq (v k)).zip ((List.range m).map fun k => shq (u k)))[k]? = some (shq (v k), shq (u k)) := by
      rw [List.getElem?_zip_eq_some]
      simp [h1, h2]
    rw [z]; rfl
  · rw [List.getElem?_eq_none (by simp; omega), List.getElem?_eq_none (by simp; omega)]; rfl
/-- the first place that is not nought -/
def leadQ (n : Nat) (v : Rw) : Nat := (List.range n).findIdx fun k => decide (v k ≠ 0)
theorem leadQ_le (n : Nat) (v : Rw) : leadQ n v ≤ n := by
  have := List.findIdx_le_length (xs := List.range n) (p := fun k => decide (v k ≠ 0))
  simpa [leadQ] using this
theorem leadQ_lt {n : Nat} {v : Rw} (h : leadQ n v < n) : v (leadQ n v) ≠ 0 := by
  have := List.findIdx_getElem (xs := List.range n) (p := fun k => decide (v k ≠ 0)) (w := by simpa [leadQ] using h)
  simpa [leadQ] using this
theorem leadQ_nil {n : Nat} {v : Rw} (h : leadQ n v = n) : ∀ k, k < n → v k = 0 := fun k hk => by
  have := List.not_of_lt_findIdx (xs := List.range n) (p := fun k => decide (v k ≠ 0)) (i := k) (by show k < leadQ n v; omega)
  simpa using this

/-! ### plus, less, times, over: of fractions -/
theorem log_lt {x : Int} {n m : Nat} (h : x.natAbs < 2 ^ n) (hn : n ≤ m) (h0 : 0 < m) : x.natAbs.log2 < m := log2_le (Nat.lt_of_lt_of_le h (pow_le2' hn)) h0
theorem log_bg {x : Int} {n : Nat} (h : x.natAbs < 2 ^ n) (hn : n ≤ 2000000) : x.natAbs.log2 ≤ 2000000 := Nat.le_of_lt_succ (log_lt h (Nat.le_succ_of_le hn) (by decide))
theorem big_q {x y : Int} {n m : Nat} (hx : x.natAbs < 2 ^ n) (hy : y.natAbs < 2 ^ m) (h1 : n ≤ 2000000) (h2 : m ≤ 2000000) : CBig x y := by
  have a := log_bg hx h1
  have b := log_bg hy h2
  unfold CBig
  omega
def Okq (x y : Rat) : Prop := ∃ a b c d : Nat, NB a b x ∧ NB c d y ∧ b + d ≤ LIM ∧ a ≤ 1000000 ∧ c ≤ 1000000
theorem okq_nb {x y : Rat} {a b c d : Nat} (h : NB a b x) (k : NB c d y) (h1 : b + d ≤ LIM) (h2 : a ≤ 1000000 := by omega) (h3 : c ≤ 1000000 := by omega) : Okq x y := ⟨a, b, c, d, h, k, h1, h2, h3⟩
def Splq : List D → D → Prop := fun ds d => ∃ x y, ds = [shq x, shq y] ∧ Okq x y ∧ d = shq (x + y)
def Sleq : List D → D → Prop := fun ds d => ∃ x y, ds = [shq x, shq y] ∧ Okq x y ∧ d = shq (x - y)
def Stiq : List D → D → Prop := fun ds d => ∃ x y, ds = [shq x, shq y] ∧ Okq x y ∧ d = shq (x * y)
def Sovq : List D → D → Prop := fun ds d => ∃ x y, ds = [shq x, shq y] ∧ y ≠ 0 ∧ (∃ a b c d : Nat, NB a b x ∧ NB c d y ∧ b + c ≤ LIM ∧ a ≤ 1000000 ∧ d ≤ 1000000) ∧ d = shq (x / y)
theorem okq_den {x y : Rat} (h : Okq x y) : (x.den : Int) * (y.den : Int) ≠ 0 ∧ ((x.den : Int) * (y.den : Int)).natAbs.log2 < 9000 ∧ CBig (x.den : Int) (y.den : Int) ∧ CBig x.num y.den ∧ CBig y.num x.den ∧ CBig x.num y.num := by
  obtain ⟨a, b, c, d, h1, h2, h3, h4, h5⟩ := h
  have hb : b ≤ 8990 := Nat.le_trans (Nat.le_add_right b d) (Nat.le_trans h3 (by decide))
  have hd : d ≤ 8990 := Nat.le_trans (Nat.le_add_left d b) (Nat.le_trans h3 (by decide))
  have n1 : (x.den : Int).natAbs < 2 ^ b := by rw [Int.natAbs_natCast]; exact h1.2
  have n2 : (y.den : Int).natAbs < 2 ^ d := by rw [Int.natAbs_natCast]; exact h2.2
  refine ⟨Int.mul_ne_zero (den_ne x) (den_ne y), log_lt (mul_lt n1 n2) (Nat.le_trans h3 (by decide)) (by decide), big_q n1 n2 (by omega) (by omega), big_q h1.1 n2 (by omega) (by omega), big_q h2.1 n1 (by omega) (by omega), big_q h1.1 h2.1 (by omega) (by omega)⟩
theorem ok_plusq (T : Tx K mg a_WeighError a_Nought a_NoText a_NoRow a_NoMachine a_NoWord a_OtherSigns a_TooMany a_Span a_NONE a_WHOLE) (c_share : Cl P w K mg base (L2.CX P w) 2 "share" (spX K Ssh (Tsh a_Nought))) : Cl P w K mg base CX0 3 "plus" (spR K Splq) := by
  refine clR T.d_plus sc_plus (fun ds d h => by obtain ⟨p, q, rfl, _⟩ := h; rfl) fun f cdv A outer s H E hr => ?_
  refine ⟨_, (pss_one (ps_ret (pclX c_share hr (by decide) rfl (pa_cons (pe_op opAdd (pe_op opMul (pe_ix ix_seq (pv 0) pe_int (fun _ _ => rfl)) (pe_ix ix_seq (pv 1) pe_int (fun _ _ => rfl))) (pe_op opMul (pe_ix ix_seq (pv 1) pe_int (fun _ _ => rfl)) (pe_ix ix_seq (pv 0) pe_int (fun _ _ => rfl)))) (pa_cons (pe_op opMul (pe_ix ix_seq (pv 0) pe_int (fun _ _ => rfl)) (pe_ix ix_seq (pv 1) pe_int (fun _ _ => rfl))) pa_nil))))), fun ds d h => ?_⟩
  obtain ⟨x, y, rfl, o, rfl⟩ := h
  obtain ⟨d0, d1, b1, b2, b3, b4⟩ := okq_den o
  rw [← plus_q]
  exact sd_ret (ed_callX (ea_cons (ed_op (ed_op (ix0 (ed_fz 0 rfl)) (ix1 (ed_fz 1 rfl)) (r2_mulI b2)) (ed_op (ix0 (ed_fz 1 rfl)) (ix1 (ed_fz 0 rfl)) (r2_mulI b3)) r2_addI) (ea_cons (ed_op (ix1 (ed_fz 0 rfl)) (ix1 (ed_fz 1 rfl)) (r2_mulI b1)) ea_nil)) ⟨_, _, rfl, d0, d1, rfl⟩)
theorem ok_lessq (T : Tx K mg a_WeighError a_Nought a_NoText a_NoRow a_NoMachine a_NoWord a_OtherSigns a_TooMany a_Span a_NONE a_WHOLE) (c_share : Cl P w K mg base (L2.CX P w) 2 "share" (spX K Ssh (Tsh a_Nought))) : Cl P w K mg base CX0 3 "less" (spR K Sleq) := by
  refine clR T.d_less sc_less (fun ds d h => by obtain ⟨p, q, rfl, _⟩ := h; rfl) fun f cdv A outer s H E hr => ?_
  refine ⟨_, (pss_one (ps_ret (pclX c_share hr (by decide) rfl (pa_cons (pe_op op_sub (pe_op opMul (pe_ix ix_seq (pv 0) pe_int (fun _ _ => rfl)) (pe_ix ix_seq (pv 1) pe_int (fun _ _ => rfl))) (pe_op opMul (pe_ix ix_seq (pv 1) pe_int (fun _ _ => rfl)) (pe_ix ix_seq (pv 0) pe_int (fun _ _ => rfl)))) (pa_cons (pe_op opMul (pe_ix ix_seq (pv 0) pe_int (fun _ _ => rfl)) (pe_ix ix_seq (pv 1) pe_int (fun _ _ => rfl))) pa_nil))))), fun ds d h => ?_⟩
  obtain ⟨x, y, rfl, o, rfl⟩ := h
  obtain ⟨d0, d1, b1, b2, b3, b4⟩ := okq_den o
  rw [← less_q]
  exact sd_ret (ed_callX (ea_cons (ed_op (ed_op (ix0 (ed_fz 0 rfl)) (ix1 (ed_fz 1 rfl)) (r2_mulI b2)) (ed_op (ix0 (ed_fz 1 rfl)) (ix1 (ed_fz 0 rfl)) (r2_mulI b3)) r2_subI) (ea_cons (ed_op (ix1 (ed_fz 0 rfl)) (ix1 (ed_fz 1 rfl)) (r2_mulI b1)) ea_nil)) ⟨_, _, rfl, d0, d1, rfl⟩)
theorem ok_timesq (T : Tx K mg a_WeighError a_Nought a_NoText a_NoRow a_NoMachine a_NoWord a_OtherSigns a_TooMany a_Span a_NONE a_WHOLE) (c_share : Cl P w K mg base (L2.CX P w) 2 "share" (spX K Ssh (Tsh a_Nought))) : Cl P w K mg base CX0 3 "times" (spR K Stiq) := by
  refine clR T.d_times sc_times (fun ds d h => by obtain ⟨p, q, rfl, _⟩ := h; rfl) fun f cdv A outer s H E hr => ?_
  refine ⟨_, (pss_one (ps_ret (pclX c_share hr (by decide) rfl (pa_cons (pe_op opMul (pe_ix ix_seq (pv 0) pe_int (fun _ _ => rfl)) (pe_ix ix_seq (pv 1) pe_int (fun _ _ => rfl))) (pa_cons (pe_op opMul (pe_ix ix_seq (pv 0) pe_int (fun _ _ => rfl)) (pe_ix ix_seq (pv 1) pe_int (fun _ _ => rfl))) pa_nil))))), fun ds d h => ?_⟩
  obtain ⟨x, y, rfl, o, rfl⟩ := h
  obtain ⟨d0, d1, b1, b2, b3, b4⟩ := okq_den o
  rw [← times_q]
  exact sd_ret (ed_callX (ea_cons (ed_op (ix0 (ed_fz 0 rfl)) (ix0 (ed_fz 1 rfl)) (r2_mulI b4)) (ea_cons (ed_op (ix1 (ed_fz 0 rfl)) (ix1 (ed_fz 1 rfl)) (r2_mulI b1)) ea_nil)) ⟨_, _, rfl, d0, d1, rfl⟩)
theorem ok_overq (T : Tx K mg a_WeighError a_Nought a_NoText a_NoRow a_NoMachine a_NoWord a_OtherSigns a_TooMany a_Span a_NONE a_WHOLE) (c_share : Cl P w K mg base (L2.CX P w) 2 "share" (spX K Ssh (Tsh a_Nought))) : Cl P w K mg base (L2.CX P w) 3 "over" (spX K Sovq fun _ _ => False) := by
  refine clX T.d_over sc_over (fun ds d h => by obtain ⟨p, q, rfl, _⟩ := h; rfl) (fun ds d h => h.elim) fun f cdv A outer s H E hr => ?_
  refine ⟨_, (pss_one (ps_ret (pclR c_share hr (by decide) rfl (passes_call (takes_of rfl rfl rfl rfl) fun _ _ _ _ h => h) (pa_cons (pe_op opMul (pe_ix ix_seq (pv 0) pe_int (fun _ _ => rfl)) (pe_ix ix_seq (pv 1) pe_int (fun _ _ => rfl))) (pa_cons (pe_op opMul (pe_ix ix_seq (pv 0) pe_int (fun _ _ => rfl)) (pe_ix ix_seq (pv 1) pe_int (fun _ _ => rfl))) pa_nil))))), fun ds d h => ?_, fun ds C h => h.elim⟩
  obtain ⟨x, y, rfl, y0, ⟨a, b, c, d, h1, h2, h3, h4, h5⟩, rfl⟩ := h
  have hb : b ≤ 8990 := Nat.le_trans (Nat.le_add_right b c) (Nat.le_trans h3 (by decide))
  have hc : c ≤ 8990 := Nat.le_trans (Nat.le_add_left c b) (Nat.le_trans h3 (by decide))
  have n1 : (x.den : Int).natAbs < 2 ^ b := by rw [Int.natAbs_natCast]; exact h1.2
  have n2 : (y.den : Int).natAbs < 2 ^ d := by rw [Int.natAbs_natCast]; exact h2.2
  rw [← over_q x y0]
  exact sd_ret (ed_callX (ea_cons (ed_op (ix0 (ed_fz 0 rfl)) (ix1 (ed_fz 1 rfl)) (r2_mulI (big_q h1.1 n2 (by omega) (by omega)))) (ea_cons (ed_op (ix1 (ed_fz 0 rfl)) (ix0 (ed_fz 1 rfl)) (r2_mulI (big_q n1 h2.1 (by omega) (by omega)))) ea_nil))
    ⟨_, _, rfl, Int.mul_ne_zero (den_ne x) (num_ne y0), log_lt (mul_lt n1 h2.1) (Nat.le_trans h3 (by decide)) (by decide), rfl⟩)
theorem ok_lplusq (T : Tx K mg a_WeighError a_Nought a_NoText a_NoRow a_NoMachine a_NoWord a_OtherSigns a_TooMany a_Span a_NONE a_WHOLE) (c__law_share : Cl P w K mg base CX0 2 "_law_share" (spR K Sls)) : Cl P w K mg base CX0 3 "_law_plus" (spR K Splq) := by
  refine clR T.d__law_plus sc_law_plus (fun ds d h => by obtain ⟨p, q, rfl, _⟩ := h; rfl) fun f cdv A outer s H E hr => ?_
  refine ⟨_, (pss_one (ps_ret (pcl c__law_share hr (by decide) rfl (pa_cons (pe_op opAdd (pe_op opMul (pe_ix ix_seq (pv 0) pe_int (fun _ _ => rfl)) (pe_ix ix_seq (pv 1) pe_int (fun _ _ => rfl))) (pe_op opMul (pe_ix ix_seq (pv 1) pe_int (fun _ _ => rfl)) (pe_ix ix_seq (pv 0) pe_int (fun _ _ => rfl)))) (pa_cons (pe_op opMul (pe_ix ix_seq (pv 0) pe_int (fun _ _ => rfl)) (pe_ix ix_seq (pv 1) pe_int (fun _ _ => rfl))) pa_nil))))), fun ds d h => ?_⟩
  obtain ⟨x, y, rfl, o, rfl⟩ := h
  obtain ⟨d0, d1, b1, b2, b3, b4⟩ := okq_den o
  have p0 : 0 < (x.den : Int) * (y.den : Int) := Int.mul_pos (by have := den_ne x; omega) (by have := den_ne y; omega)
  rw [← plus_q]
  exact sd_ret (ed_call (ea_cons (ed_op (ed_op (ix0 (ed_fz 0 rfl)) (ix1 (ed_fz 1 rfl)) (r2_mulI b2)) (ed_op (ix0 (ed_fz 1 rfl)) (ix1 (ed_fz 0 rfl)) (r2_mulI b3)) r2_addI) (ea_cons (ed_op (ix1 (ed_fz 0 rfl)) (ix1 (ed_fz 1 rfl)) (r2_mulI b1)) ea_nil)) ⟨_, _, rfl, p0, d1, rfl⟩)
theorem ok_ltimesq (T : Tx K mg a_WeighError a_Nought a_NoText a_NoRow a_NoMachine a_NoWord a_OtherSigns a_TooMany a_Span a_NONE a_WHOLE) (c__law_share : Cl P w K mg base CX0 2 "_law_share" (spR K Sls)) : Cl P w K mg base CX0 3 "_law_times" (spR K Stiq) := by
  refine clR T.d__law_times sc_law_times (fun ds d h => by obtain ⟨p, q, rfl, _⟩ := h; rfl) fun f cdv A outer s H E hr => ?_
  refine ⟨_, (pss_one (ps_ret (pcl c__law_share hr (by decide) rfl (pa_cons (pe_op opMul (pe_ix ix_seq (pv 0) pe_int (fun _ _ => rfl)) (pe_ix ix_seq (pv 1) pe_int (fun _ _ => rfl))) (pa_cons (pe_op opMul (pe_ix ix_seq (pv 0) pe_int (fun _ _ => rfl)) (pe_ix ix_seq (pv 1) pe_int (fun _ _ => rfl))) pa_nil))))), fun ds d h => ?_⟩
  obtain ⟨x, y, rfl, o, rfl⟩ := h
  obtain ⟨d0, d1, b1, b2, b3, b4⟩ := okq_den o
  have p0 : 0 < (x.den : Int) * (y.den : Int) := Int.mul_pos (by have := den_ne x; omega) (by have := den_ne y; omega)
  rw [← times_q]
  exact sd_ret (ed_call (ea_cons (ed_op (ix0 (ed_fz 0 rfl)) (ix0 (ed_fz 1 rfl)) (r2_mulI b4)) (ea_cons (ed_op (ix1 (ed_fz 0 rfl)) (ix1 (ed_fz 1 rfl)) (r2_mulI b1)) ea_nil)) ⟨_, _, rfl, p0, d1, rfl⟩)

theorem eqD_sh (p q : Int × Int) : eqD (sh p) (sh q) = decide (p = q) := by
  have e : eqD (sh p) (sh q) = (p.1 == q.1 && (p.2 == q.2 && true)) := by
    simp only [eqD, D.py, D.pyA, PyData.eqv, PyData.eqvAll]
  rw [e, Bool.eq_iff_iff]
  simp [Prod.ext_iff]
theorem pl_sh (p : Int × Int) : Pl 1 (sh p) := .tup fun d hd => by
  rcases List.mem_cons.mp hd with e | e
  · subst e; exact .int _
  · rcases List.mem_cons.mp e with e | e
    · subst e; exact .int _
    · cases e

def Sli : List D → D → Prop := fun ds d => ∃ p q : Int × Int, ds = [sh p, sh q] ∧ d = .bl (decide (p = q))
theorem ok_lis (T : Tx K mg a_WeighError a_Nought a_NoText a_NoRow a_NoMachine a_NoWord a_OtherSigns a_TooMany a_Span a_NONE a_WHOLE) (c__law_whole : Cl P w K mg base CX0 1 "_law_whole" (spR K Swh)) : Cl P w K mg base CX0 2 "_law_is" (spR K Sli) := by
  refine clR T.d__law_is sc_law_is (fun ds d h => by obtain ⟨a, b, rfl, _⟩ := h; rfl) fun f cdv A outer s H E hr => ?_
  refine ⟨_, (pss_cons (ps_if (PW.pt (pw_or (pt_not (pt_val (pe_callB call_isi (by rfl) T.n_isinstance bt_isinstance (pa_cons (pv 0) (pa_cons (pe_bltn (v := .ty "tuple") (by rfl) T.n_tuple bt_tuple rfl) pa_nil))))) (pw_or (pt_cmpR (op_neD hr.units) (pe_callB callLen (by rfl) T.n_len bt_len (pa_cons (pv 0) pa_nil)) pe_int (nomark _)) (pw_or (pt_not (pt_val (pcl c__law_whole hr (by decide) rfl (pa_cons (pe_ix ix_seq (pv 0) pe_int (fun _ _ => rfl)) pa_nil)))) (pw_or1 (pt_not (pt_val (pcl c__law_whole hr (by decide) rfl (pa_cons (pe_ix ix_seq (pv 0) pe_int (fun _ _ => rfl)) pa_nil)))))))))
  (pss_one (ps_ret pe_bl))
  pss_nil)
  (pss_one (ps_ret (pe_cmpR (op_eqD hr.units) (pv 0) (pv 1) (nomark _))))), fun ds d h => ?_⟩
  obtain ⟨p, q, rfl, rfl⟩ := h
  refine sd_seq (sd_ifF (et_orF (et_nF (et_B (ed_cb (ea_cons (ed_fz 0 rfl) (ea_cons (ed_ty _) ea_nil)) (rc_isi rfl (by decide +kernel))))) (et_orF (et_is (et_test (ed_op (ed_cb (ea_cons (ed_fz 0 rfl) ea_nil) rc_lenT) (ed_int 2) r2_neI)) rfl)
    (et_orF (et_nF (et_B (ed_call (ea_cons (ix0 (ed_fz 0 rfl)) ea_nil) ⟨_, _, rfl, rfl, rfl⟩))) (et_nF (et_B (ed_call (ea_cons (ix1 (ed_fz 0 rfl)) ea_nil) ⟨_, _, rfl, rfl, rfl⟩)))))) sd_next) ?_
  exact sd_ret (ed_is (ed_op (ed_fz 0 rfl) (ed_fz 1 rfl) (r2_eq (pl_sh p) (pl_sh q))) (by rw [eqD_sh]))

/-! ### lead_of, moved -/
def leadS : List (Int × Int) → Nat
  | [] => 0
  | p :: ps => if p = (0, 1) then leadS ps + 1 else 0
theorem leadS_le : ∀ ps : List (Int × Int), leadS ps ≤ ps.length
  | [] => Nat.le_refl _
  | p :: ps => by
    unfold leadS
    split
    · exact Nat.succ_le_succ (leadS_le ps)
    · exact Nat.zero_le _
theorem zp_sh (ps qs : List (Int × Int)) : zp (ps.map sh) (qs.map sh) = (ps.zip qs).map fun x => .tup [sh x.1, sh x.2] := by
  unfold zp
  rw [List.zip_map, List.map_map] <;> rfl
def Sle' : List D → D → Prop := fun ds d => ∃ ps : List (Int × Int), ds = [shL ps] ∧ ps.length ≤ 1000 ∧ d = .int (leadS ps : Nat)
theorem ok_lead_of (T : Tx K mg a_WeighError a_Nought a_NoText a_NoRow a_NoMachine a_NoWord a_OtherSigns a_TooMany a_Span a_NONE a_WHOLE) : Cl P w K mg base CX0 1 "lead_of" (spR K Sle') := by
  refine clR T.d_lead_of sc_lead_of (fun ds d h => by obtain ⟨a, rfl, _⟩ := h; rfl) fun f cdv A outer s H E hr => ?_
  refine ⟨_, (pss_cons (ps_for PassesOwn.never rfl (pi_range1 rfl T.n_range (pa_cons (pe_callB callLen (by rfl) T.n_len bt_len (pa_cons (pv 0) pa_nil)) pa_nil)) (pg_name (i := 1) sc_lead_of.nd rfl (by first | exact Or.inl rfl | exact Or.inr rfl))
  (pss_one (ps_if (pt_cmpR (op_neD hr.units) (pe_ix ix_seq (pv 0) (pv 1) (fun _ _ => rfl)) (pe_glob (v := .ref a_NONE) rfl T.m_NONE rfl) (nomark _))
  (pss_one (ps_ret (pv 1)))
  pss_nil)))
  (pss_one (ps_ret (pe_callB callLen (by rfl) T.n_len bt_len (pa_cons (pv 0) pa_nil))))), fun ds d h => ?_⟩
  obtain ⟨ps, rfl, hl, rfl⟩ := h
  have len : ∀ {Γ : Gam}, Γ[0]? = some (.fz (shL ps)) → Ed K (tCB (rLenA K) (tCons (tVar 0) tNil)) Γ (.int (ps.length : Nat)) := fun h => ed_is (ed_cb (ea_cons (ed_fz 0 h) ea_nil) rc_lenL) (congrArg D.int (by rw [List.length_map]))
  -- behind the places seen
  suffices main : ∀ (m k : Nat), k + m = ps.length → (leadS ps = k + leadS (ps.drop k)) → (leadS ps < ps.length ∧ LoopF K E0 _ _ ((List.range' k m).map fun i => D.int (i : Nat)) [.fz (shL ps), .no] (.rt (.int (leadS ps : Nat)))) ∨ (leadS ps = ps.length ∧ LoopF K E0 _ _ ((List.range' k m).map fun i => D.int (i : Nat)) [.fz (shL ps), .no] (.nx [.fz (shL ps), .no])) by
    have e : (List.range' 0 ps.length).map (fun i => D.int (i : Nat)) = rg 0 (ps.length : Int).toNat := by
      rw [Int.toNat_natCast]
      unfold rg
      rw [List.range_eq_range']
      exact List.map_congr_left fun i _ => by rw [Int.zero_add]
    rcases main ps.length 0 (by omega) (by rw [List.drop_zero]; omega) with ⟨_, lp⟩ | ⟨eq, lp⟩
    · rw [e] at lp
      exact sd_stop (sd_for (ei_rng1 (n := (ps.length : Int)) (ea_cons (len rfl) ea_nil) (by omega)) lp) rfl
    · rw [e] at lp
      rw [eq]
      exact sd_seq (sd_for (ei_rng1 (n := (ps.length : Int)) (ea_cons (len rfl) ea_nil) (by omega)) lp) (sd_ret (len rfl))
  intro m
  induction m with
  | zero =>
    intro k hk he
    refine .inr ⟨?_, .done⟩
    rw [he, List.drop_of_length_le (by omega)]
    show k + 0 = _
    omega
  | succ m ih =>
    intro k hk he
    have hk' : k < ps.length := by omega
    rw [List.drop_eq_getElem_cons hk'] at he
    have tst : Et K (tTest (tOp (rNeD K) (tOp (rIx K) (tVar 0) (tVar 1)) (tC (.ref a_NONE)))) [.fz (shL ps), .fz (.int (k : Nat))] (!decide (ps[k] = (0, 1))) := et_is (et_test (ed_op (ed_op (ed_fz 0 rfl) (ed_fz 1 rfl) (r2_ixL (d := sh ps[k]) (by rw [atI_nat' (by rw [List.length_map]; exact hk'), List.getElem_map]))) (ed_pair T.q_NONE) (r2_ne (pl_sh ps[k]) (pl_sh (0, 1))))) (by rw [show D.tup [.int 0, .int 1] = sh (0, 1) from rfl, eqD_sh])
    rw [List.range'_succ, List.map_cons]
    by_cases h0 : ps[k] = (0, 1)
    · have he' : leadS ps = k + 1 + leadS (ps.drop (k + 1)) := by
        rw [he]
        show k + (if ps[k] = (0, 1) then leadS (ps.drop (k + 1)) + 1 else 0) = _
        rw [if_pos h0]; omega
      rcases ih (k + 1) (by omega) he' with ⟨a, lp⟩ | ⟨a, lp⟩
      · exact .inl ⟨a, .step (eg_name 1) (Sd.lpLe (Γ1 := [.fz (shL ps), .fz (.int (k : Nat))]) (Sd.toLp (sd_ifF (et_is tst (by rw [decide_eq_true h0]; rfl)) sd_next)) (.cons (.inr rfl) (.cons (.inl rfl) .nil))) lp⟩
      · exact .inr ⟨a, .step (eg_name 1) (Sd.lpLe (Γ1 := [.fz (shL ps), .fz (.int (k : Nat))]) (Sd.toLp (sd_ifF (et_is tst (by rw [decide_eq_true h0]; rfl)) sd_next)) (.cons (.inr rfl) (.cons (.inl rfl) .nil))) lp⟩
    · have he' : leadS ps = k := by
        rw [he]
        show k + (if ps[k] = (0, 1) then leadS (ps.drop (k + 1)) + 1 else 0) = _
        rw [if_neg h0]; omega
      refine .inl ⟨by omega, .out (js := [1]) (eg_name 1) (sd_ifT (et_is tst (by rw [decide_eq_false h0]; rfl)) (sd_is (sd_ret (ed_fz 1 rfl)) (by rw [he']))) rfl⟩

theorem leadS_q : ∀ (v : Rw) (l : List Nat), leadS (l.map fun k => ((v k).num, ((v k).den : Int))) = l.findIdx fun k => decide (v k ≠ 0)
  | _, [] => rfl
  | v, k :: l => by
    have ih := leadS_q v l
    rw [List.map_cons, List.findIdx_cons]
    show (if ((v k).num, ((v k).den : Int)) = (0, 1) then _ else 0) = _
    by_cases h : v k = 0
    · rw [h, if_pos (show (Rat.num 0, ((Rat.den 0 : Nat) : Int)) = (0, 1) from rfl), ih, decide_eq_false (by simp)]; rfl
    · rw [if_neg (fun z => h (Rat.num_eq_zero.mp (congrArg (·.1) z))), decide_eq_true h]; rfl
def Sleadq : List D → D → Prop := fun ds d => ∃ (n : Nat) (v : Rw), ds = [rowQ n v] ∧ n ≤ 1000 ∧ d = .int (leadQ n v : Nat)
theorem ok_lead_q (T : Tx K mg a_WeighError a_Nought a_NoText a_NoRow a_NoMachine a_NoWord a_OtherSigns a_TooMany a_Span a_NONE a_WHOLE) : Cl P w K mg base CX0 1 "lead_of" (spR K Sleadq) := clImp (ok_lead_of T) fun vs H Q E h => by
  obtain ⟨F, ds, d, e, r, ⟨n, v, h1, h2, h3⟩, q⟩ := h
  refine ⟨F, ds, d, e, r, ⟨(List.range n).map fun k => ((v k).num, ((v k).den : Int)), ?_, by simpa using h2, ?_⟩, q⟩
  · rw [h1]
    unfold shL
    rw [List.map_map]
    rfl
  · rw [h3, leadS_q]
    rfl
/-! ### moved -/
def Smvq : List D → List D → Prop := fun ds es => ∃ (n w : Nat) (R l : Rw) (c : Rat), ds = [rowQ n R, shq c, rowQ n l] ∧ n ≤ 1000 ∧ 3 * w ≤ LIM ∧ NB w w c ∧ (∀ k, k < n → NB w w (R k)) ∧ (∀ k, k < n → NB w w (l k)) ∧ es = (List.range n).map fun k => shq (R k - c * l k)
theorem ok_moved (T : Tx K mg a_WeighError a_Nought a_NoText a_NoRow a_NoMachine a_NoWord a_OtherSigns a_TooMany a_Span a_NONE a_WHOLE) (c_less : Cl P w K mg base CX0 3 "less" (spR K Sleq)) (c_times : Cl P w K mg base CX0 3 "times" (spR K Stiq)) : Cl P w K mg base CX0 4 "moved" (spW K Smvq) := by
  refine clW T.d_moved sc_moved (fun ds d h => by obtain ⟨_, _, _, _, _, rfl, _⟩ := h; rfl) fun f cdv A outer s H E hr => ?_
  refine ⟨_, (pss_one (ps_ret (pe_lc rfl sc_moved.nd (own := [("one", 3), ("two", 4)]) (pi_zip (by rfl) T.n_zip (pa_cons (pv 0) (pa_cons (pv 2) pa_nil))) (blkOk_by (by kernel_rfl)) (fun _ _ _ _ _ => (pg_cast (pg_tup (n := 2) rfl (pgs_cons (pg_name (i := 3) sc_moved.nd rfl (by first | exact Or.inl rfl | exact Or.inr rfl)) (pgs_cons (pg_name (i := 4) sc_moved.nd rfl (by first | exact Or.inl rfl | exact Or.inr rfl)) pgs_nil))) (rfl : _ = gTup K 2 _))) (fun _ _ _ _ _ => pts_nil) (fun _ _ _ _ _ => (pcl c_less hr (by decide) rfl (pa_cons (pv 3) (pa_cons (pcl c_times hr (by decide) rfl (pa_cons (pv 1) (pa_cons (pv 4) pa_nil))) pa_nil))))))), fun ds d h => ?_⟩
  obtain ⟨n, w', R, l, c, rfl, hn, hw, bc, bR, bl, rfl⟩ := h
  have lim : LIM = 8990 := rfl
  have z : zp ((List.range n).map fun k => shq (R k)) ((List.range n).map fun k => shq (l k)) = (List.range n).map fun k => D.tup [shq (R k), shq (l k)] := by rw [zp_q, Nat.min_self]
  refine sd_retW (ew_map (List.range n) (fun k => D.tup [shq (R k), shq (l k)]) (fun k => shq (R k - c * l k)) (Ei.is (ei_zip (ea_cons (ed_fz 0 rfl) (ea_cons (ed_fz 2 rfl) ea_nil))) z) (by simpa using Nat.le_trans hn (by decide)) fun k hk => ⟨[3, 4], _, eg_tup (egs_cons (eg_name 3) (egs_cons (eg_name 4) egs_nil)) rfl, by simp, ?_⟩)
  have hk := List.mem_range.mp hk
  have tm : Ed K (tCall (spR K Stiq) [] E0 (tCons (tVar 1) (tCons (tVar 4) tNil))) [.fz (rowQ n R), .fz (shq c), .fz (rowQ n l), .fz (shq (R k)), .fz (shq (l k))] (shq (c * l k)) := ed_call (ea_cons (ed_fz 1 rfl) (ea_cons (ed_fz 4 rfl) ea_nil)) ⟨_, _, rfl, okq_nb bc (bl k hk) (by omega), rfl⟩
  exact ed_call (ea_cons (ed_fz 3 rfl) (ea_cons tm ea_nil)) ⟨_, _, rfl, okq_nb (bR k hk) (bc.mul (bl k hk)) (by omega), rfl⟩
/-! ### a span -/
def linD (n m : Nat) (p : Nat → Nat) (l q : Nat → Rw) (j : Nat) : D := .tup [.int (p j : Nat), rowQ n (l j), rowQ m (q j)]
def spanF (n m : Nat) (p : Nat → Nat) (l q : Nat → Rw) : List (Str × D) := [("size", .int (n : Nat)), ("lines", .lst ((List.range m).map (linD n m p l q)))]
/-- what a span is asked with: sizes -/
structure Ask (n m : Nat) (p : Nat → Nat) (l q : Nat → Rw) (x : Rw) (w : Nat) : Prop where
  n1 : n ≤ 100
  m1 : m ≤ 100
  lim : 3 * w ≤ LIM
  w0 : 0 < w
  pn : ∀ j, j < m → p j < n
  z : Szs n m p l q w
  r : ∀ j, j ≤ m → ∀ k, k < n → NB w w (rest p l x j k)
  s : ∀ j, j ≤ m → ∀ i, i < m → NB w w (part p l q x j i)
def Spdq (C : Addr) : List D → D → Prop := fun ds d => ∃ (n m : Nat) (p : Nat → Nat) (l q : Nat → Rw) (x : Rw) (w : Nat), ds = [.ins C (spanF n m p l q), rowQ n x] ∧ Ask n m p l q x w ∧ d = .tup [rowQ n (rest p l x m), rowQ m (part p l q x m)]
def Tpdq (C C' : Addr) : List D → Addr → Prop := fun ds c => ∃ (n m : Nat) (p : Nat → Nat) (l q : Nat → Rw) (o : D), ds = [.ins C (spanF n m p l q), o] ∧ RowK o ∧ isRow n o = false ∧ c = C'
theorem lf_shq (x : Rat) : Lf K (shq x) := lf_pair _ _
theorem lf_row {n : Nat} {v : Rw} : ∀ d ∈ (List.range n).map (fun k => shq (v k)), Lf K d := fun d hd => by
  obtain ⟨k, _, rfl⟩ := List.mem_map.mp hd
  exact lf_shq _
theorem ok_parted (T : Tx K mg a_WeighError a_Nought a_NoText a_NoRow a_NoMachine a_NoWord a_OtherSigns a_TooMany a_Span a_NONE a_WHOLE) (c_is_row : Cl P w K mg base CX0 3 "is_row" (spR K SirG)) (c_moved : Cl P w K mg base CX0 4 "moved" (spW K Smvq)) (c_plus : Cl P w K mg base CX0 3 "plus" (spR K Splq)) (c_times : Cl P w K mg base CX0 3 "times" (spR K Stiq)) : Cm P w K mg base (L2.CX P w) 5 a_Span "parted" (spXN K (Spdq a_Span) (Tpdq a_Span a_NoRow)) := by
  refine cmXN T.d_Span_parted sc_Span_parted (fun ds d h => by obtain ⟨_, _, _, _, _, _, _, rfl, _⟩ := h; rfl) (fun ds c h => by obtain ⟨_, _, _, _, _, _, rfl, _⟩ := h; rfl) fun f cdv A outer s H E hr => ?_
  refine ⟨_, (pss_cons (ps_if (pt_not (pt_val (pcl c_is_row hr (by decide) rfl (pa_cons (pv 1) (pa_cons (pe_fld (pv 0) rfl) pa_nil)))))
  (pss_one (ps_raise rfl (takes_of rfl rfl rfl rfl) (pmk_own PySem.F.excBase_ValueError T.x_NoRow T.m_NoRow T.k_NoRow (raises_own T.b_NoRow T.t_NoRow) rfl)))
  pss_nil)
  (pss_cons (ps_set (i := 2) sc_Span_parted.nd rfl (by first | exact Or.inl rfl | exact Or.inr rfl) (pe_callTy callList (by rfl) T.n_list bt_list (pa_cons (pv 1) pa_nil)))
  (pss_cons (ps_setLc (i := 4) rfl sc_Span_parted.nd rfl rfl (sw_true rfl rfl rfl (by decide +kernel)) (own := [("line", 3)]) (pi_list (pe_fld (pv 0) rfl)) (blkOk_by (by kernel_rfl)) (fun _ _ _ _ _ => (pg_name (i := 3) sc_Span_parted.nd rfl (by first | exact Or.inl rfl | exact Or.inr rfl))) (fun _ _ _ _ _ => pts_nil) (fun _ _ _ _ _ => (pe_glob (v := .ref a_NONE) rfl T.m_NONE rfl)))
  (pss_cons (ps_for (passes_of rfl) rfl (pi_list (pe_fld (pv 0) rfl)) (pg_tup rfl (pgs_cons (pg_name (i := 5) sc_Span_parted.nd rfl (by first | exact Or.inl rfl | exact Or.inr rfl)) (pgs_cons (pg_name (i := 3) sc_Span_parted.nd rfl (by first | exact Or.inl rfl | exact Or.inr rfl)) (pgs_cons (pg_name (i := 6) sc_Span_parted.nd rfl (by first | exact Or.inl rfl | exact Or.inr rfl)) pgs_nil))))
  (pss_cons (ps_set (i := 7) sc_Span_parted.nd rfl (by first | exact Or.inl rfl | exact Or.inr rfl) (pe_ix ix_seq (pv 2) (pv 5) (fun _ _ => rfl)))
  (pss_cons (ps_set (i := 2) sc_Span_parted.nd rfl (by first | exact Or.inl rfl | exact Or.inr rfl) (pcl c_moved hr (by decide) rfl (pa_cons (pv 2) (pa_cons (pv 7) (pa_cons (pv 3) pa_nil)))))
  (pss_one (ps_setLc (i := 4) rfl sc_Span_parted.nd rfl rfl (sw_true rfl rfl rfl (by decide +kernel)) (own := [("one", 8), ("two", 9)]) (pi_zip (by rfl) T.n_zip (pa_cons (pv 4) (pa_cons (pv 6) pa_nil))) (blkOk_by (by kernel_rfl)) (fun _ _ _ _ _ => (pg_cast (pg_tup (n := 2) rfl (pgs_cons (pg_name (i := 8) sc_Span_parted.nd rfl (by first | exact Or.inl rfl | exact Or.inr rfl)) (pgs_cons (pg_name (i := 9) sc_Span_parted.nd rfl (by first | exact Or.inl rfl | exact Or.inr rfl)) pgs_nil))) (rfl : _ = gTup K 2 _))) (fun _ _ _ _ _ => pts_nil) (fun _ _ _ _ _ => (pcl c_plus hr (by decide) rfl (pa_cons (pv 8) (pa_cons (pcl c_times hr (by decide) rfl (pa_cons (pv 7) (pa_cons (pv 9) pa_nil))) pa_nil)))))))))
  (pss_one (ps_ret (pe_tup (pa_cons (pv 2) (pa_cons (pv 4) pa_nil))))))))), fun ds d h => ?_, fun ds c h => ?_⟩
  · obtain ⟨n, m, p, l, q, x, w', rfl, I, rfl⟩ := h
    let SD : D := .ins a_Span (spanF n m p l q)
    let RD : D := rowQ n x
    have n1 := I.n1
    have m1 := I.m1
    have lim := I.lim
    have lim' : LIM = 8990 := rfl
    have w0 := I.w0
    have fS : ∀ {Γ : Gam}, Γ[0]? = some (.fz SD) → Ed K (tFld K (tVar 0) "size") Γ (.int (n : Nat)) := fun h => ed_fld (ed_fz 0 h) T.cl_Span T.na_Span_size rfl
    have fL : ∀ {Γ : Gam}, Γ[0]? = some (.fz SD) → Ed K (tFld K (tVar 0) "lines") Γ (.lst ((List.range m).map (linD n m p l q))) := fun h => ed_fld (ed_fz 0 h) T.cl_Span T.na_Span_lines rfl
    let qs : Nat → Rw → List D := fun n v => (List.range n).map fun k => shq (v k)
    let G : Nat → Gam := fun j => [.fz SD, .fz RD, .ow (qs n (rest p l x j)), .no, .ow (qs m (part p l q x j)), .no, .no, .no, .no, .no]
    refine sd_seq (Γ1 := [.fz SD, .fz RD, .no, .no, .no, .no, .no, .no, .no, .no]) (sd_ifF (et_nF (et_B (ed_is (ed_call (ea_cons (ed_fz 1 rfl) (ea_cons (fS rfl) ea_nil)) ⟨RD, n, rfl, rowK_q x (by omega), rfl⟩) (congrArg D.bl (isRow_q n x))))) sd_next) ?_
    refine sd_seq (Γ1 := [.fz SD, .fz RD, .ow (qs n x), .no, .no, .no, .no, .no, .no, .no]) (sd_setW 2 (ew_listL (ed_fz 1 rfl))) ?_
    refine sd_seq (Γ1 := G 0) (sd_setW 4 (ew_is (ew_map (List.range m) (linD n m p l q) (fun _ => sh (0, 1)) (ei_list (fL rfl)) (by simp; omega) fun x hx => ⟨[3], _, eg_name 3, by simp, ed_pair T.q_NONE⟩) rfl)) ?_
    refine sd_seq (Γ1 := G m) ?_ (sd_retPairO 2 4 (by decide) rfl rfl lf_row lf_row)
    refine sd_for (ei_list (fL rfl)) (loopF_rm m (linD n m p l q) G fun j hj => ?_)
    let lD : D := rowQ n (l j)
    let qD : D := rowQ m (q j)
    let cD : D := shq (rest p l x j (p j))
    have pj := I.pn j hj
    have bc := I.r j (by omega) (p j) pj
    refine ⟨[5, 3, 6], [.fz SD, .fz RD, .ow (qs n (rest p l x j)), .fz lD, .ow (qs m (part p l q x j)), .fz (.int (p j : Nat)), .fz qD, .no, .no, .no], eg_tup (egs_cons (eg_name 5) (egs_cons (eg_name 3) (egs_cons (eg_name 6) egs_nil))) rfl, ?_⟩
    refine Sd.lpLe (Γ1 := [.fz SD, .fz RD, .ow (qs n (rest p l x (j + 1))), .fz lD, .ow (qs m (part p l q x (j + 1))), .fz (.int (p j : Nat)), .fz qD, .fz cD, .no, .no]) (Sd.toLp ?_) (.cons (.inr rfl) (.cons (.inr rfl) (.cons (.inr rfl) (.cons (.inl rfl) (.cons (.inr rfl) (.cons (.inl rfl) (.cons (.inl rfl) (.cons (.inl rfl) (.cons (.inr rfl) (.cons (.inr rfl) .nil))))))))))
    refine sd_freeze 2 rfl ?_
    refine sd_seq (Γ1 := [.fz SD, .fz RD, .fz (rowQ n (rest p l x j)), .fz lD, .ow (qs m (part p l q x j)), .fz (.int (p j : Nat)), .fz qD, .fz cD, .no, .no]) (sd_set 7 (ed_op (ed_fz 2 rfl) (ed_fz 5 rfl) (r2_ixL (rowQ_at _ pj)))) ?_
    refine sd_seq (Γ1 := [.fz SD, .fz RD, .ow (qs n (rest p l x (j + 1))), .fz lD, .ow (qs m (part p l q x j)), .fz (.int (p j : Nat)), .fz qD, .fz cD, .no, .no]) (sd_setW 2 (ew_call (ea_cons (ed_fz 2 rfl) (ea_cons (ed_fz 7 rfl) (ea_cons (ed_fz 3 rfl) ea_nil))) ⟨n, w', rest p l x j, l j, rest p l x j (p j), rfl, by omega, lim, bc, I.r j (by omega), I.z.l j hj, rfl⟩)) ?_
    refine sd_freeze 4 rfl ?_
    have z : zp (qs m (part p l q x j)) (qs m (q j)) = (List.range m).map fun k => D.tup [shq (part p l q x j k), shq (q j k)] := by
      show zp ((List.range m).map fun k => shq (part p l q x j k)) ((List.range m).map fun k => shq (q j k)) = _
      rw [zp_q, Nat.min_self]
    refine sd_setW 4 (ew_map (List.range m) (fun k => D.tup [shq (part p l q x j k), shq (q j k)]) (fun k => shq (part p l q x (j + 1) k)) (Ei.is (ei_zip (ea_cons (ed_fz 4 rfl) (ea_cons (ed_fz 6 rfl) ea_nil))) z) (by simp; omega) fun k hk => ⟨[8, 9], _, eg_tup (egs_cons (eg_name 8) (egs_cons (eg_name 9) egs_nil)) rfl, by simp, ?_⟩)
    have hk := List.mem_range.mp hk
    have bq := I.z.q j hj k
    exact ed_call (ea_cons (ed_fz 8 rfl) (ea_cons (ed_call (ea_cons (ed_fz 7 rfl) (ea_cons (ed_fz 9 rfl) ea_nil)) ⟨_, _, rfl, okq_nb bc bq (by omega), rfl⟩) ea_nil)) ⟨_, _, rfl, okq_nb (I.s j (by omega) k hk) (bc.mul bq) (by omega), rfl⟩
  · obtain ⟨n, m, p, l, q, o, rfl, ok, hb, rfl⟩ := h
    exact sd_stop (sd_ifT (et_nT (et_B (ed_is (ed_call (ea_cons (ed_fz 1 rfl) (ea_cons (ed_fld (ed_fz 0 rfl) T.cl_Span T.na_Span_size rfl) ea_nil)) ⟨o, n, rfl, ok, rfl⟩) (congrArg D.bl hb)))) sd_raise) rfl
/-! ### tells, many, put -/
def Stlq (C : Addr) : List D → D → Prop := fun ds d => ∃ (n m : Nat) (p : Nat → Nat) (l q : Nat → Rw) (x : Rw) (w : Nat), ds = [.ins C (spanF n m p l q), rowQ n x] ∧ Ask n m p l q x w ∧ d = if leadQ n (rest p l x m) < n then .non else rowQ m (part p l q x m)
theorem lf_non : Lf K .non := fun F Hs v r => by cases r; exact .non
theorem ok_tells (T : Tx K mg a_WeighError a_Nought a_NoText a_NoRow a_NoMachine a_NoWord a_OtherSigns a_TooMany a_Span a_NONE a_WHOLE) (c_parted : Cm P w K mg base (L2.CX P w) 5 a_Span "parted" (spXN K (Spdq a_Span) (Tpdq a_Span a_NoRow))) (c_lead_of : Cl P w K mg base CX0 1 "lead_of" (spR K Sleadq)) : Cm P w K mg base (L2.CX P w) 6 a_Span "tells" (spXN K (Stlq a_Span) (Tpdq a_Span a_NoRow)) := by
  refine cmXN T.d_Span_tells sc_Span_tells (fun ds d h => by obtain ⟨_, _, _, _, _, _, _, rfl, _⟩ := h; rfl) (fun ds c h => by obtain ⟨_, _, _, _, _, _, rfl, _⟩ := h; rfl) fun f cdv A outer s H E hr => ?_
  refine ⟨_, (pss_cons (ps_asg (pcmR c_parted T.cl_Span hr (by decide) (passes_call (takes_of rfl rfl rfl rfl) fun _ _ _ _ h => h) (pv 0) (pa_cons (pv 1) pa_nil)) (pg_tup rfl (pgs_cons (pg_name (i := 2) sc_Span_tells.nd rfl (by first | exact Or.inl rfl | exact Or.inr rfl)) (pgs_cons (pg_name (i := 3) sc_Span_tells.nd rfl (by first | exact Or.inl rfl | exact Or.inr rfl)) pgs_nil))))
  (pss_cons (ps_if (pt_cmpR opLt (pcl c_lead_of hr (by decide) rfl (pa_cons (pv 2) pa_nil)) (pe_fld (pv 0) rfl) (nomark _))
  (pss_one (ps_ret pe_non))
  pss_nil)
  (pss_one (ps_ret (pv 3))))), fun ds d h => ?_, fun ds c h => ?_⟩
  · obtain ⟨n, m, p, l, q, x, w', rfl, I, rfl⟩ := h
    have n1 := I.n1
    let SD : D := .ins a_Span (spanF n m p l q)
    have tst : ∀ Γ : Gam, Γ[0]? = some (.fz SD) → Γ[2]? = some (.fz (rowQ n (rest p l x m))) → Et K (tTest (tOp rLtA (tCall (spR K Sleadq) [] E0 (tCons (tVar 2) tNil)) (tFld K (tVar 0) "size"))) Γ (decide (((leadQ n (rest p l x m) : Nat) : Int) < (n : Nat))) := fun Γ h0 h2 => et_test (ed_op (ed_call (ea_cons (ed_fz 2 h2) ea_nil) ⟨n, _, rfl, by omega, rfl⟩) (ed_fld (ed_fz 0 h0) T.cl_Span T.na_Span_size rfl) r2_ltI)
    refine sd_pairH (i := 2) (j := 3) (by decide) (by show 3 < 4; decide) (edH_meth (ed_fz 0 rfl) rfl (ea_cons (ed_fz 1 rfl) ea_nil) ⟨n, m, p, l, q, x, w', rfl, I, rfl⟩) ?_
    by_cases h0 : leadQ n (rest p l x m) < n
    · rw [if_pos h0]
      exact sdX_of (sd_stop (sd_ifT (et_is (tst _ rfl rfl) (decide_eq_true (by omega))) (sd_retH (edH_lf ed_non lf_non))) rfl)
    · rw [if_neg h0]
      exact sdX_skip (et_is (tst _ rfl rfl) (decide_eq_false (by omega))) sdX_ret
  · obtain ⟨n, m, p, l, q, o, rfl, ok, hb, rfl⟩ := h
    exact sd_stop (sd_setX (xd_methN (ed_fz 0 rfl) rfl (ea_cons (ed_fz 1 rfl) ea_nil) ⟨n, m, p, l, q, o, rfl, ok, hb, rfl⟩)) rfl
def Smyq (C : Addr) : List D → D → Prop := fun ds d => ∃ (n m : Nat) (p : Nat → Nat) (l q : Nat → Rw), ds = [.ins C (spanF n m p l q)] ∧ d = .int (m : Nat)
theorem ok_many (T : Tx K mg a_WeighError a_Nought a_NoText a_NoRow a_NoMachine a_NoWord a_OtherSigns a_TooMany a_Span a_NONE a_WHOLE) : Cm P w K mg base CX0 1 a_Span "many" (spR K (Smyq a_Span)) := by
  refine cmR T.d_Span_many sc_Span_many (fun ds d h => by obtain ⟨_, _, _, _, _, rfl, _⟩ := h; rfl) fun f cdv A outer s H E hr => ?_
  refine ⟨_, (pss_one (ps_ret (pe_callB callLen (by rfl) T.n_len bt_len (pa_cons (pe_fld (pv 0) rfl) pa_nil)))), fun ds d h => ?_⟩
  obtain ⟨n, m, p, l, q, rfl, rfl⟩ := h
  exact sd_ret (ed_is (ed_cb (ea_cons (ed_fld (ed_fz 0 rfl) T.cl_Span T.na_Span_lines rfl) ea_nil) rc_lenL) (congrArg D.int (by rw [List.length_map, List.length_range])))
def Sspi : List D → List (Str × D) → Prop := fun ds gs => ∃ n : Nat, ds = [.int (n : Nat)] ∧ gs = spanF n 0 (fun _ => 0) (fun _ _ => 0) (fun _ _ => 0)
theorem ok_Span (T : Tx K mg a_WeighError a_Nought a_NoText a_NoRow a_NoMachine a_NoWord a_OtherSigns a_TooMany a_Span a_NONE a_WHOLE) : Ci P w K mg base CX0 1 "Span" a_Span (spIO K a_Span Sspi) := by
  refine ciO T.i_Span T.m_Span sc_SpanD_initD (fun ds d h => by obtain ⟨_, rfl, _⟩ := h; rfl) fun f cdv A outer s H E hr => ?_
  refine ⟨_, (pss_cons (ps_fld (pv 0) (pv 1) rfl)
  (pss_one (ps_fld (pv 0) (pe_lst pa_nil) rfl))), fun ds gs h x => ?_⟩
  obtain ⟨n, rfl, rfl⟩ := h
  refine ⟨[.ob (some x) a_Span (spanF n 0 (fun _ => 0) (fun _ _ => 0) (fun _ _ => 0)), .fz (.int (n : Nat))], rfl, ?_⟩
  refine sd_seq (Γ1 := [.ob (some x) a_Span [("size", .int (n : Nat))], .fz (.int (n : Nat))]) (sd_is (sd_fld 0 (gs := []) rfl (ed_fz 1 rfl) T.cl_Span T.na_Span_size (by show 0 < 1000; decide)) rfl) ?_
  exact sd_is (sd_fld 0 (gs := [("size", .int (n : Nat))]) rfl (ed_lst ea_nil) T.cl_Span T.na_Span_lines (by show 1 < 1000; decide)) rfl
/-- a row taken in -/
structure Nxt (n m : Nat) (p : Nat → Nat) (l q : Nat → Rw) (x : Rw) (d : D) (gs : List (Str × D)) : Prop where
  no : leadQ n (rest p l x m) = n → d = .bl false ∧ gs = spanF n m p l q
  yes : leadQ n (rest p l x m) < n → d = .bl true ∧ gs = spanF n (m + 1) (upd1 p m (leadQ n (rest p l x m))) (upd1 l m (newL p l x m (leadQ n (rest p l x m)))) (upd1 q m (newQ p l q x m (leadQ n (rest p l x m))))
def Sptq : List (Str × D) → D → D → List (Str × D) → Prop := fun gs dr d gs' => ∃ (n m : Nat) (p : Nat → Nat) (l q : Nat → Rw) (x : Rw) (w : Nat), gs = spanF n m p l q ∧ dr = rowQ n x ∧ Ask n m p l q x w ∧ (∀ j, j < m → q j m = 0) ∧ Nxt n m p l q x d gs'
theorem rep_no (n : Nat) : (List.replicate n Sl.no) = List.replicate n Sl.no := rfl
theorem pl_shq (x : Rat) : Pl 1 (shq x) := pl_sh _
theorem pl_row (n : Nat) (v : Rw) : Pl 2 (rowQ n v) := .lst fun d hd => by
  obtain ⟨k, _, rfl⟩ := List.mem_map.mp hd
  exact pl_shq _
theorem pl_rows (n m : Nat) (v u : Rw) : Pl 3 (.tup [rowQ n v, rowQ m u]) := .tup fun d hd => by
  rcases List.mem_cons.mp hd with h | h
  · subst h; exact pl_row n v
  · rcases List.mem_cons.mp h with h | h
    · subst h; exact pl_row m u
    · cases h
theorem range_succ_map {α : Type} (f : Nat → α) (m : Nat) : (List.range (m + 1)).map f = (List.range m).map f ++ [f m] := by rw [List.range_succ, List.map_append]; rfl
theorem ok_put (T : Tx K mg a_WeighError a_Nought a_NoText a_NoRow a_NoMachine a_NoWord a_OtherSigns a_TooMany a_Span a_NONE a_WHOLE) (c_parted : Cm P w K mg base (L2.CX P w) 5 a_Span "parted" (spXN K (Spdq a_Span) (Tpdq a_Span a_NoRow))) (c_lead_of : Cl P w K mg base CX0 1 "lead_of" (spR K Sleadq)) (c_over : Cl P w K mg base (L2.CX P w) 3 "over" (spX K Sovq fun _ _ => False)) (c_less : Cl P w K mg base CX0 3 "less" (spR K Sleq)) : Cm P w K mg base (L2.CX P w) 6 a_Span "put" (spU K a_Span Sptq (Tpdq a_Span a_NoRow)) := by
  refine cmU T.d_Span_put sc_Span_put rfl (fun ds c h => by obtain ⟨_, _, _, _, _, _, rfl, _⟩ := h; rfl) fun f cdv A outer s H E hr => ?_
  refine ⟨_, (pss_cons (ps_asg (pcmR c_parted T.cl_Span hr (by decide) (passes_call (takes_of rfl rfl rfl rfl) fun _ _ _ _ h => h) (pv 0) (pa_cons (pv 1) pa_nil)) (pg_tup rfl (pgs_cons (pg_name (i := 2) sc_Span_put.nd rfl (by first | exact Or.inl rfl | exact Or.inr rfl)) (pgs_cons (pg_name (i := 3) sc_Span_put.nd rfl (by first | exact Or.inl rfl | exact Or.inr rfl)) pgs_nil))))
  (pss_cons (ps_set (i := 4) sc_Span_put.nd rfl (by first | exact Or.inl rfl | exact Or.inr rfl) (pcl c_lead_of hr (by decide) rfl (pa_cons (pv 2) pa_nil)))
  (pss_cons (ps_if (pt_cmpR (op_eqD hr.units) (pv 4) (pe_fld (pv 0) rfl) (nomark _))
  (pss_one (ps_ret pe_bl))
  pss_nil)
  (pss_cons (ps_setLc (i := 5) rfl sc_Span_put.nd rfl rfl (sw_true rfl rfl rfl (by decide +kernel)) (own := [("one", 7)]) (pi_list (pv 2)) (blkOk_by (by kernel_rfl)) (fun _ _ _ _ _ => (pg_name (i := 7) sc_Span_put.nd rfl (by first | exact Or.inl rfl | exact Or.inr rfl))) (fun _ _ _ _ _ => pts_nil) (fun _ _ _ _ _ => (pclX c_over hr (by decide) rfl (pa_cons (pv 7) (pa_cons (pe_ix (ix_seqK (K := K) rfl) (pv 2) (pv 4) (fun _ _ => rfl)) pa_nil)))))
  (pss_cons (ps_set (i := 6) sc_Span_put.nd rfl (by first | exact Or.inl rfl | exact Or.inr rfl) (pe_op opAdd (pe_lc rfl sc_Span_put.nd (own := [("one", 7)]) (pi_list (pv 3)) (blkOk_by (by kernel_rfl)) (fun _ _ _ _ _ => (pg_name (i := 7) sc_Span_put.nd rfl (by first | exact Or.inl rfl | exact Or.inr rfl))) (fun _ _ _ _ _ => pts_nil) (fun _ _ _ _ _ => (pclX c_over hr (by decide) rfl (pa_cons (pcl c_less hr (by decide) rfl (pa_cons (pe_glob (v := .ref a_NONE) rfl T.m_NONE rfl) (pa_cons (pv 7) pa_nil))) (pa_cons (pe_ix (ix_seqK (K := K) rfl) (pv 2) (pv 4) (fun _ _ => rfl)) pa_nil))))) (pe_lst (pa_cons (pclX c_over hr (by decide) rfl (pa_cons (pe_glob (v := .ref a_WHOLE) rfl T.m_WHOLE rfl) (pa_cons (pe_ix ix_seq (pv 2) (pv 4) (fun _ _ => rfl)) pa_nil))) pa_nil))))
  (pss_cons (ps_fld (pv 0) (pe_op opAdd (pe_lc rfl sc_Span_put.nd (own := [("at", 8), ("one", 7), ("two", 9)]) (pi_list (pe_fld (pv 0) rfl)) (blkOk_by (by kernel_rfl)) (fun _ _ _ _ _ => (pg_cast (pg_tup (n := 3) rfl (pgs_cons (pg_name (i := 8) sc_Span_put.nd rfl (by first | exact Or.inl rfl | exact Or.inr rfl)) (pgs_cons (pg_name (i := 7) sc_Span_put.nd rfl (by first | exact Or.inl rfl | exact Or.inr rfl)) (pgs_cons (pg_name (i := 9) sc_Span_put.nd rfl (by first | exact Or.inl rfl | exact Or.inr rfl)) pgs_nil)))) (rfl : _ = gTup K 3 _))) (fun _ _ _ _ _ => pts_nil) (fun _ _ _ _ _ => (pe_tup (pa_cons (pv 8) (pa_cons (pv 7) (pa_cons (pe_op opAdd (pv 9) (pe_lst (pa_cons (pe_glob (v := .ref a_NONE) rfl T.m_NONE rfl) pa_nil))) pa_nil)))))) (pe_lst (pa_cons (pe_tup (pa_cons (pv 4) (pa_cons (pv 5) (pa_cons (pv 6) pa_nil)))) pa_nil))) rfl)
  (pss_one (ps_ret pe_bl)))))))), fun gs dr d gs' h F H x v De U fin => ?_, fun ds c h => ?_⟩
  · obtain ⟨n, m, p, l, q, y, w', rfl, rfl, I, up, nx⟩ := h
    have n1 := I.n1
    have m1 := I.m1
    have lim := I.lim
    have lim' : LIM = 8990 := rfl
    have w0 := I.w0
    let rs := rest p l y m
    let pt := part p l q y m
    let c := leadQ n rs
    have cle : c ≤ n := leadQ_le n rs
    refine first_u (d1 := rowQ n rs) (d2 := rowQ m pt) (n := 3) (Γ := List.replicate 8 .no) (i := 2) (j := 3) (d := d) (gs' := gs') U rfl ⟨n, m, p, l, q, y, w', rfl, I, rfl⟩ (pl_rows n m rs pt) rfl (by decide) (by decide) (by decide) (by decide) rfl ?_ fin
    let S0 : Sl := .ob (some x) a_Span (spanF n m p l q)
    show SdU K _ x a_Span [S0, .no, .fz (rowQ n rs), .fz (rowQ m pt), .no, .no, .no, .no, .no, .no] d gs'
    refine sdU_seq (E := E0) (Γ1 := [S0, .no, .fz (rowQ n rs), .fz (rowQ m pt), .fz (.int (c : Nat)), .no, .no, .no, .no, .no]) (sd_set 4 (ed_call (ea_cons (ed_fz 2 rfl) ea_nil) ⟨n, rs, rfl, by omega, rfl⟩)) ?_
    have tst : Et K (tTest (tOp (rEqD K) (tVar 4) (tFld K (tVar 0) "size"))) [S0, .no, .fz (rowQ n rs), .fz (rowQ m pt), .fz (.int (c : Nat)), .no, .no, .no, .no, .no] (decide (((c : Nat) : Int) = ((n : Nat) : Int))) := et_test (ed_op (ed_fz 4 rfl) (ed_fldO 0 rfl T.cl_Span T.na_Span_size rfl) r2_eqI)
    by_cases hc : c = n
    · obtain ⟨rfl, rfl⟩ := nx.no hc
      exact sdU_stop (sdU_ifT (et_is tst (decide_eq_true (by omega))) (sdU_ret 0 rfl (ed_bl false)))
    · have hlt : c < n := by omega
      obtain ⟨rfl, rfl⟩ := nx.yes hlt
      have c0 : rs c ≠ 0 := leadQ_lt hlt
      have bc : NB w' w' (rs c) := I.r m (by omega) c hlt
      refine sdU_seq (E := E0) (sd_ifF (et_is tst (decide_eq_false (by omega))) sd_next) ?_
      let G : Sl → Sl → Gam := fun a b => [S0, .no, .fz (rowQ n rs), .fz (rowQ m pt), .fz (.int (c : Nat)), a, b, .no, .no, .no]
      have ld : ∀ {Γ : Gam}, Γ[2]? = some (.fz (rowQ n rs)) → Γ[4]? = some (.fz (.int (c : Nat))) → Ed K (tOp (rIx K) (tVar 2) (tVar 4)) Γ (shq (rs c)) := fun h2 h4 => ed_op (ed_fz 2 h2) (ed_fz 4 h4) (r2_ixL (rowQ_at _ hlt))
      refine sdU_seq (E := E0) (Γ1 := G (.fz (rowQ n (newL p l y m c))) .no) (sd_set 5 (ed_map (List.range n) (fun k => shq (rs k)) (fun k => shq (newL p l y m c k)) (ei_list (ed_fz 2 rfl)) (by simp; omega) fun k hk => ⟨[7], _, eg_name 7, by simp, ed_callX (ea_cons (ed_fz 7 rfl) (ea_cons (ld rfl rfl) ea_nil)) ⟨rs k, rs c, rfl, c0, ⟨w', w', w', w', I.r m (by omega) k (List.mem_range.mp hk), bc, by omega, by omega, by omega⟩, rfl⟩⟩)) ?_
      refine sdU_seq (E := E0) (Γ1 := G (.fz (rowQ n (newL p l y m c))) (.fz (rowQ (m + 1) (newQ p l q y m c)))) (sd_set 6 (ed_is (ed_op (ed_map (List.range m) (fun k => shq (pt k)) (fun k => shq ((0 - pt k) / rs c)) (ei_list (ed_fz 3 rfl)) (by simp; omega) fun k hk => ⟨[7], _, eg_name 7, by simp, ?_⟩) (ed_lst (ea_cons (ed_callX (ea_cons (ed_pair T.q_WHOLE) (ea_cons (ld rfl rfl) ea_nil)) ⟨1, rs c, rfl, c0, ⟨1, 1, w', w', nb_one (by decide) (by decide), bc, by omega, by omega, by omega⟩, rfl⟩) ea_nil)) (r2_addL (by simp; omega))) ?_)) ?_
      · have hk := List.mem_range.mp hk
        have bp := I.s m (by omega) k hk
        refine ed_callX (ea_cons (ed_call (ea_cons (ed_pair T.q_NONE) (ea_cons (ed_fz 7 rfl) ea_nil)) ⟨0, pt k, rfl, okq_nb (nb_zero (a := 1) (b := 1) (by decide)) bp (by omega), rfl⟩) (ea_cons (ld rfl rfl) ea_nil)) ⟨0 - pt k, rs c, rfl, c0, ⟨w', w', w', w', ?_, bc, by omega, by omega, by omega⟩, rfl⟩
        have e : (0 : Rat) - pt k = - pt k := by grind
        rw [e]
        exact bp.neg
      · show D.lst _ = D.lst _
        rw [range_succ_map]
        refine congrArg D.lst (congr (congrArg _ (List.map_congr_left fun k hk => ?_)) (congrArg (fun z => [shq z]) ?_))
        · have hk := List.mem_range.mp hk
          show _ = shq (newQ p l q y m c k)
          unfold newQ
          rw [if_neg (by omega), if_pos hk]
        · unfold newQ
          rw [if_pos rfl]
      · refine sdU_seq (E := E0) (Γ1 := [.ob (some x) a_Span (spanF n (m + 1) (upd1 p m c) (upd1 l m (newL p l y m c)) (upd1 q m (newQ p l q y m c))), .no, .fz (rowQ n rs), .fz (rowQ m pt), .fz (.int (c : Nat)), .fz (rowQ n (newL p l y m c)), .fz (rowQ (m + 1) (newQ p l q y m c)), .no, .no, .no]) (sd_is (sd_fld 0 (d := .lst ((List.range (m + 1)).map (linD n (m + 1) (upd1 p m c) (upd1 l m (newL p l y m c)) (upd1 q m (newQ p l q y m c))))) rfl (ed_is (ed_op (ed_map (List.range m) (linD n m p l q) (fun j => .tup [.int (p j : Nat), rowQ n (l j), rowQ (m + 1) (q j)]) (ei_list (ed_fldO 0 rfl T.cl_Span T.na_Span_lines rfl)) (by simp; omega) fun j hj => ⟨[8, 7, 9], _, eg_tup (egs_cons (eg_name 8) (egs_cons (eg_name 7) (egs_cons (eg_name 9) egs_nil))) rfl, by simp, ?_⟩) (ed_lst (ea_cons (ed_tup (ea_cons (ed_fz 4 rfl) (ea_cons (ed_fz 5 rfl) (ea_cons (ed_fz 6 rfl) ea_nil)))) ea_nil)) (r2_addL (by simp; omega))) ?_) T.cl_Span T.na_Span_lines (by show 2 < 1000; decide)) rfl) (sdU_ret 0 rfl (ed_bl true))
        · refine ed_tup (ea_cons (ed_fz 8 rfl) (ea_cons (ed_fz 7 rfl) (ea_cons (ed_is (ed_op (ed_fz 9 rfl) (ed_lst (ea_cons (ed_pair T.q_NONE) ea_nil)) (r2_addL (by simp; omega))) ?_) ea_nil)))
          show D.lst _ = D.lst _
          rw [range_succ_map, up j (List.mem_range.mp hj)]
          rfl
        · show D.lst _ = D.lst _
          rw [range_succ_map]
          refine congrArg D.lst (congr (congrArg _ (List.map_congr_left fun j hj => ?_)) (congrArg (fun z => [z]) ?_))
          · have hj := List.mem_range.mp hj
            unfold linD
            rw [upd1_ne (by omega), upd1_ne (by omega), upd1_ne (by omega)]
          · unfold linD
            rw [upd1_at, upd1_at, upd1_at]
  · obtain ⟨n, m, p, l, q, o, rfl, ok, hb, rfl⟩ := h
    exact sd_stop (sd_setX (xd_methN (ed_fz 0 rfl) rfl (ea_cons (ed_fz 1 rfl) ea_nil) ⟨n, m, p, l, q, o, rfl, ok, hb, rfl⟩)) rfl

theorem zw_zip {α β γ : Type} (f : α → β → γ) : ∀ (R : List α) (l : List β), List.zipWith f R l = (R.zip l).map fun q => f q.1 q.2
  | [], _ => rfl
  | _ :: _, [] => rfl
  | a :: R, b :: l => by rw [List.zipWith_cons_cons, List.zip_cons_cons, List.map_cons, zw_zip f R l]
/-! ### the law's rank -/
def intLr (r : List Int) : D := .lst (r.map D.int)
theorem eqD_nil (ds : List D) : eqD (.lst ds) (.lst []) = decide (ds = []) := by
  cases ds <;> simp [eqD, D.py, D.pyA, PyData.eqv, PyData.eqvAll]
theorem pl_intL (r : List Int) : Pl 1 (intLr r) := .lst fun d hd => by
  obtain ⟨i, _, rfl⟩ := List.mem_map.mp hd
  exact .int i
theorem pl_rowsL (rs : List (List Int)) : Pl 2 (.lst (rs.map intLr)) := .lst fun d hd => by
  obtain ⟨i, _, rfl⟩ := List.mem_map.mp hd
  exact pl_intL i
def Nrs (rs : List (List Int)) (w : Nat) : Prop := ∀ r ∈ rs, ∀ k, (at' r k).natAbs < 2 ^ w
theorem ed_at {K : PySem.W.Frag} {Γ : Gam} {i j : Nat} {r : List Int} {p : Nat} (hi : Γ[i]? = some (.fz (intLr r))) (hj : Γ[j]? = some (.fz (.int (p : Nat)))) (hp : p < r.length) : Ed K (tOp (rIx K) (tVar i) (tVar j)) Γ (.int (at' r p)) :=
  ed_op (ed_fz i hi) (ed_fz j hj) (r2_ixL (by
    rw [atI_nat' (by rw [List.length_map]; exact hp), List.getElem_map]
    unfold at'
    rw [getD_at hp]))
theorem cross_len {p : Nat} {h x : List Int} {n : Nat} (hh : h.length = n) (hx : x.length = n) : (crossR p h x).length = n := by
  unfold crossR
  rw [List.length_zipWith, hh, hx, Nat.min_self]
theorem cross_lt {p : Nat} {h x : List Int} {n w : Nat} (hh : h.length = n) (hx : x.length = n) (bh : ∀ k, (at' h k).natAbs < 2 ^ w) (bx : ∀ k, (at' x k).natAbs < 2 ^ w) (k : Nat) : (at' (crossR p h x) k).natAbs < 2 ^ (w + w + 1) := by
  rw [cross_at (by rw [hx, hh])]
  have m1 := mul_lt (bh p) (bx k)
  have m2 := mul_lt (bx p) (bh k)
  rw [Nat.pow_succ]
  omega
/-- the bits behind so many heads taken -/
def rkB (w : Nat) : Nat → Nat
  | 0 => w
  | f + 1 => rkB w f + rkB w f + 1
theorem rkB_mono (w : Nat) {a b : Nat} (h : a ≤ b) : rkB w a ≤ rkB w b := by
  induction h with
  | refl => exact Nat.le_refl _
  | step _ ih => exact Nat.le_trans ih (by show rkB w _ ≤ rkB w _ + rkB w _ + 1; omega)
theorem rk_found_le {n : Nat} {rows : List (List Int)} (hl : ∀ r ∈ rows, r.length = n) {p : Nat} (hp : p ≤ n) : (rkL rows p).2 ≤ rows.length := by
  have := (rk_inv hl p hp).sum
  omega
theorem rk_bits {n w : Nat} {rows : List (List Int)} (hl : ∀ r ∈ rows, r.length = n) (hb : Nrs rows w) : ∀ p, p ≤ n → Nrs (rkL rows p).1 (rkB w (rkL rows p).2)
  | 0, _ => hb
  | p + 1, hp => by
    have I := rk_inv hl p (by omega)
    have ih := rk_bits hl hb p (by omega)
    show Nrs (rkS p (rkL rows p)).1 (rkB w (rkS p (rkL rows p)).2)
    generalize rkL rows p = s at I ih
    unfold rkS
    have hm : ∀ r, r ∈ headsR p s.1 → r ∈ s.1 := fun r h => (List.mem_filter.mp h).1
    have rm : ∀ r, r ∈ restR p s.1 → r ∈ s.1 := fun r h => (List.mem_filter.mp h).1
    cases e : headsR p s.1 with
    | nil => exact fun r hr => ih r (rm r hr)
    | cons h hs =>
      rw [e] at hm
      intro r hr k
      rcases List.mem_append.mp hr with q | q
      · refine Nat.lt_of_lt_of_le (ih r (rm r q) k) (pow_le2 ?_)
        show rkB w s.2 ≤ rkB w (s.2 + 1)
        exact rkB_mono w (Nat.le_succ _)
      · obtain ⟨x, hx, rfl⟩ := List.mem_map.mp q
        have i1 := hm h List.mem_cons_self
        have i2 := hm x (List.mem_cons_of_mem _ hx)
        exact cross_lt (I.len h i1) (I.len x i2) (ih h i1) (ih x i2) k
def Srk : List D → D → Prop := fun ds d => ∃ (n : Nat) (rows : List (List Int)), ds = [.lst (rows.map intLr)] ∧ rows ≠ [] ∧ (∀ r ∈ rows, r.length = n) ∧ n ≤ 100 ∧ rows.length ≤ 14 ∧ Nrs rows 22 ∧ d = .int (rankR n rows : Nat)
theorem ok_rank (T : Tx K mg a_WeighError a_Nought a_NoText a_NoRow a_NoMachine a_NoWord a_OtherSigns a_TooMany a_Span a_NONE a_WHOLE) : Cl P w K mg base CX0 1 "_law_rank" (spR K Srk) := by
  refine clR T.d__law_rank sc_law_rank (fun ds d h => by obtain ⟨_, _, rfl, _⟩ := h; rfl) fun f cdv A outer s H E hr => ?_
  refine ⟨_, (pss_cons (ps_setLc (i := 2) rfl sc_law_rank.nd rfl rfl (sw_true rfl rfl rfl (by decide +kernel)) (own := [("_law_row", 1)]) (pi_list (pv 0)) (blkOk_by (by kernel_rfl)) (fun _ _ _ _ _ => (pg_name (i := 1) sc_law_rank.nd rfl (by first | exact Or.inl rfl | exact Or.inr rfl))) (fun _ _ _ _ _ => pts_nil) (fun _ _ _ _ _ => (pe_callTy (callListK (K := K) rfl) (by rfl) T.n_list bt_list (pa_cons (pv 1) pa_nil))))
  (pss_cons (ps_set (i := 3) sc_law_rank.nd rfl (by first | exact Or.inl rfl | exact Or.inr rfl) pe_int)
  (pss_cons (ps_for PassesOwn.never rfl (pi_range1 rfl T.n_range (pa_cons (pe_callB callLen (by rfl) T.n_len bt_len (pa_cons (pe_ix ix_seq (pe_op opAdd (pv 0) (pe_lst (pa_cons (pe_lst pa_nil) pa_nil))) pe_int (fun _ _ => rfl)) pa_nil)) pa_nil)) (pg_name (i := 4) sc_law_rank.nd rfl (by first | exact Or.inl rfl | exact Or.inr rfl))
  (pss_cons (ps_setLc (i := 5) rfl sc_law_rank.nd rfl rfl (sw_true rfl rfl rfl (by decide +kernel)) (own := [("_law_row", 1)]) (pi_list (pv 2)) (blkOk_by (by kernel_rfl)) (fun _ _ _ _ _ => (pg_name (i := 1) sc_law_rank.nd rfl (by first | exact Or.inl rfl | exact Or.inr rfl))) (fun _ _ _ _ _ => (pts_one (pt_cmpR (op_neDK (K := K) rfl hr.units) (pe_ix (ix_seqK (K := K) rfl) (pv 1) (pv 4) (fun _ _ => rfl)) pe_int (nomark _)))) (fun _ _ _ _ _ => (pv 1)))
  (pss_cons (ps_setLc (i := 2) rfl sc_law_rank.nd rfl rfl (sw_true rfl rfl rfl (by decide +kernel)) (own := [("_law_row", 1)]) (pi_list (pv 2)) (blkOk_by (by kernel_rfl)) (fun _ _ _ _ _ => (pg_name (i := 1) sc_law_rank.nd rfl (by first | exact Or.inl rfl | exact Or.inr rfl))) (fun _ _ _ _ _ => (pts_one (pt_cmpR (op_eqDK (K := K) rfl hr.units) (pe_ix (ix_seqK (K := K) rfl) (pv 1) (pv 4) (fun _ _ => rfl)) pe_int (nomark _)))) (fun _ _ _ _ _ => (pv 1)))
  (pss_one (ps_if (pt_cmpR (op_neD hr.units) (pv 5) (pe_lst pa_nil) (nomark _))
  (pss_cons (ps_set (i := 3) sc_law_rank.nd rfl (by first | exact Or.inl rfl | exact Or.inr rfl) (pe_op opAdd (pv 3) pe_int))
  (pss_cons (ps_set (i := 6) sc_law_rank.nd rfl (by first | exact Or.inl rfl | exact Or.inr rfl) (pe_ix ix_seq (pv 5) pe_int (fun _ _ => rfl)))
  (pss_one (ps_for PassesOwn.never rfl (pi_list (pe_slice slA (pv 5) (po_some pe_int) po_none)) (pg_name (i := 1) sc_law_rank.nd rfl (by first | exact Or.inl rfl | exact Or.inr rfl))
  (pss_one (ps_expr (pe_bm PySem.F.plainAttrs_list PySem.F.slot_list_append PySem.F.type_list_append mt_append (pv 2) (pa_cons (pe_lc rfl sc_law_rank.nd (own := [("_law_one", 7), ("_law_two", 8)]) (pi_zip (by rfl) T.n_zip (pa_cons (pv 1) (pa_cons (pv 6) pa_nil))) (blkOk_by (by kernel_rfl)) (fun _ _ _ _ _ => (pg_cast (pg_tup (n := 2) rfl (pgs_cons (pg_name (i := 7) sc_law_rank.nd rfl (by first | exact Or.inl rfl | exact Or.inr rfl)) (pgs_cons (pg_name (i := 8) sc_law_rank.nd rfl (by first | exact Or.inl rfl | exact Or.inr rfl)) pgs_nil))) (rfl : _ = gTup K 2 _))) (fun _ _ _ _ _ => pts_nil) (fun _ _ _ _ _ => (pe_op op_sub (pe_op opMul (pe_ix (ix_seqK (K := K) rfl) (pv 6) (pv 4) (fun _ _ => rfl)) (pv 7)) (pe_op opMul (pe_ix (ix_seqK (K := K) rfl) (pv 1) (pv 4) (fun _ _ => rfl)) (pv 8))))) pa_nil))))))))
  pss_nil)))))
  (pss_one (ps_ret (pv 3)))))), fun ds d h => ?_⟩
  obtain ⟨n, rows, rfl, hne, hl, hn, hr14, hb, rfl⟩ := h
  let RD : D := .lst (rows.map intLr)
  let st : Nat → Gam := fun p => [.fz RD, .no, .ow ((rkL rows p).1.map intLr), .fz (.int ((rkL rows p).2 : Nat)), .no, .no, .no, .no, .no]
  have r0 : rows.length > 0 := List.length_pos_iff.mpr hne
  refine sd_seq (Γ1 := [.fz RD, .no, .ow (rows.map intLr), .no, .no, .no, .no, .no, .no]) (sd_setW 2 (ew_map rows intLr intLr (ei_list (ed_fz 0 rfl)) (by omega) fun r hr => ⟨[1], _, eg_name 1, by simp, ed_cb (ea_cons (ed_fz 1 rfl) ea_nil) rc_listL⟩)) ?_
  refine sd_seq (Γ1 := st 0) (sd_set 3 (ed_int 0)) ?_
  have wid : Ed K (tCB (rLenA K) (tCons (tOp (rIx K) (tOp rAddA (tVar 0) (tLst (tCons (tLst tNil) tNil))) (tC (.int 0))) tNil)) (st 0) (.int (n : Nat)) := by
    obtain ⟨r, rs, e⟩ := List.exists_cons_of_ne_nil hne
    refine ed_is (ed_cb (ds := [intLr r]) (ea_cons (ed_op (ed_op (ed_fz 0 rfl) (ed_lst (ea_cons (ed_lst ea_nil) ea_nil)) (r2_addL (by rw [List.length_map]; show _ + 1 ≤ _; omega))) (ed_int 0) (r2_ixL (by rw [e]; exact atI_nat' (xs := List.map intLr (r :: rs) ++ [D.lst []]) (k := 0) (by simp)))) ea_nil) rc_lenL) (congrArg D.int ?_)
    rw [List.length_map, hl r (by rw [e]; exact List.mem_cons_self)]
  refine sd_seq (Γ1 := st n) (sd_for (Ei.is (ei_rng1 (n := (n : Int)) (ea_cons wid ea_nil) (by omega)) (show _ = rg 0 n by rw [Int.toNat_natCast])) (loopF_rg n st fun p hp => ?_)) (sd_ret (ed_fz 3 rfl))
  have I := rk_inv hl p (by omega)
  have B := rk_bits hl hb p (by omega)
  have fl := rk_found_le hl (p := p) (by omega)
  have sum := I.sum
  have step : rkL rows (p + 1) = rkS p (rkL rows p) := rfl
  have wB : rkB 22 (rkL rows p).2 ≤ 400000 := Nat.le_trans (rkB_mono 22 (show (rkL rows p).2 ≤ 14 by omega)) (by decide)
  have wB0 : 0 < rkB 22 (rkL rows p).2 := Nat.lt_of_lt_of_le (by decide) (rkB_mono 22 (Nat.zero_le _))
  generalize hs0 : rkL rows p = S at I B fl sum step wB wB0
  obtain ⟨left, found⟩ := S
  simp only at I B fl sum wB wB0
  have hleft : left.length ≤ 14 := by omega
  have LL := I.len
  simp only at LL
  let hds := headsR p left
  let rst := restR p left
  refine ⟨[4], [.fz RD, .no, .ow (left.map intLr), .fz (.int (found : Nat)), .fz (.int (p : Nat)), .no, .no, .no, .no], ?_, ?_⟩
  · show Eg K (gName 4) [4] _ [.fz RD, .no, .ow ((rkL rows p).1.map intLr), .fz (.int ((rkL rows p).2 : Nat)), .no, .no, .no, .no, .no] _
    rw [hs0]
    exact eg_name 4
  · refine sd_freeze 2 rfl ?_
    have tst : ∀ (Γ : Gam) (r : List Int), r ∈ left → Γ[1]? = some (.fz (intLr r)) → Γ[4]? = some (.fz (.int (p : Nat))) → Ed K (tOp (rIx K) (tVar 1) (tVar 4)) Γ (.int (at' r p)) := fun Γ r hr h1 h4 => ed_at h1 h4 (by rw [LL r hr]; exact hp)
    refine Sd.lpLe (Γ1 := [.fz RD, .no, .ow ((rkS p (left, found)).1.map intLr), .fz (.int ((rkS p (left, found)).2 : Nat)), .fz (.int (p : Nat)), .no, .no, .no, .no]) (Sd.toLp ?_) (by
      simp only [st, step]
      exact .cons (.inr rfl) (.cons (.inl rfl) (.cons (.inr rfl) (.cons (.inr rfl) (.cons (.inl rfl) (.cons (.inl rfl) (.cons (.inl rfl) (.cons (.inl rfl) (.cons (.inl rfl) .nil)))))))))
    refine sd_seq (Γ1 := [.fz RD, .no, .fz (.lst (left.map intLr)), .fz (.int (found : Nat)), .fz (.int (p : Nat)), .fz (.lst (hds.map intLr)), .no, .no, .no]) (sd_set 5 (ed_lc left intLr (fun r => !decide (at' r p = 0)) intLr (ei_list (ed_fz 2 rfl)) (by omega) fun r hr => ⟨[1], _, eg_name 1, by simp, et_test (ed_op (tst _ r hr rfl rfl) (ed_int 0) r2_neI), fun _ => ed_fz 1 rfl⟩)) ?_
    refine sd_seq (Γ1 := [.fz RD, .no, .ow (rst.map intLr), .fz (.int (found : Nat)), .fz (.int (p : Nat)), .fz (.lst (hds.map intLr)), .no, .no, .no]) (sd_setW 2 (ew_lc left intLr (fun r => decide (at' r p = 0)) intLr (ei_list (ed_fz 2 rfl)) (by omega) fun r hr => ⟨[1], _, eg_name 1, by simp, et_test (ed_op (tst _ r hr rfl rfl) (ed_int 0) r2_eqI), fun _ => ed_fz 1 rfl⟩)) ?_
    have tn : Et K (tTest (tOp (rNeD K) (tVar 5) (tLst tNil))) [.fz RD, .no, .ow (rst.map intLr), .fz (.int (found : Nat)), .fz (.int (p : Nat)), .fz (.lst (hds.map intLr)), .no, .no, .no] (!decide (hds.map intLr = [])) := et_is (et_test (ed_op (ed_fz 5 rfl) (ed_lst ea_nil) (r2_ne (pl_rowsL hds) (.lst (n := 0) fun d hd => nomatch hd)))) (by rw [eqD_nil])
    have hm : ∀ r, r ∈ hds → r ∈ left := fun r h => (List.mem_filter.mp h).1
    unfold rkS
    show Sd K E0 _ _ (.nx [.fz RD, .no, .ow ((match headsR p left with | [] => (restR p left, found) | h :: hs => (restR p left ++ hs.map (crossR p h), found + 1)).1.map intLr), .fz (.int ((match headsR p left with | [] => (restR p left, found) | h :: hs => (restR p left ++ hs.map (crossR p h), found + 1)).2 : Nat)), .fz (.int (p : Nat)), .no, .no, .no, .no])
    cases e : headsR p left with
    | nil =>
      rw [show hds = [] from e] at tn ⊢
      exact Sd.nxLe (sd_ifF (et_is tn rfl) sd_next) (.cons (.inr rfl) (.cons (.inr rfl) (.cons (.inr rfl) (.cons (.inr rfl) (.cons (.inr rfl) (.cons (.inl rfl) (.cons (.inr rfl) (.cons (.inr rfl) (.cons (.inr rfl) .nil)))))))))
    | cons h hs =>
      rw [show hds = h :: hs from e] at tn hm ⊢
      have ih := hm h List.mem_cons_self
      have lh : h.length = n := LL h ih
      have hdl : (h :: hs).length ≤ 14 := by
        have := List.length_filter_le (fun r => !decide (at' r p = 0)) left
        have e' : (headsR p left).length = (h :: hs).length := by rw [e]
        unfold headsR at e'
        omega
      have hsl : hs.length ≤ 14 := by simp only [List.length_cons] at hdl; omega
      have rsl : rst.length ≤ 14 := Nat.le_trans (List.length_filter_le _ _) hleft
      let G : List D → Nat → Sl → Gam := fun lf fo fi => [.fz RD, .no, .ow lf, .fz (.int (fo : Nat)), .fz (.int (p : Nat)), .fz (.lst ((h :: hs).map intLr)), fi, .no, .no]
      refine Sd.nxLe (Γ1 := G ((rst ++ hs.map (crossR p h)).map intLr) (found + 1) (.fz (intLr h))) ?_ (.cons (.inr rfl) (.cons (.inr rfl) (.cons (.inr rfl) (.cons (.inr rfl) (.cons (.inr rfl) (.cons (.inl rfl) (.cons (.inl rfl) (.cons (.inr rfl) (.cons (.inr rfl) .nil)))))))))
      refine sd_ifT (et_is tn rfl) ?_
      refine sd_seq (Γ1 := G (rst.map intLr) (found + 1) .no) (sd_set 3 (ed_is (ed_op (ed_fz 3 rfl) (ed_int 1) r2_addI) (congrArg D.int (by push_cast; rfl)))) ?_
      refine sd_seq (Γ1 := G (rst.map intLr) (found + 1) (.fz (intLr h))) (sd_set 6 (ed_op (ed_fz 5 rfl) (ed_int 0) (r2_ixL (atI_nat' (xs := List.map intLr (h :: hs)) (k := 0) (by simp))))) ?_
      let st2 : Nat → Gam := fun i => G ((rst ++ (hs.take i).map (crossR p h)).map intLr) (found + 1) (.fz (intLr h))
      have s0 : st2 0 = G (rst.map intLr) (found + 1) (.fz (intLr h)) := by simp [st2]
      have s1 : st2 hs.length = G ((rst ++ hs.map (crossR p h)).map intLr) (found + 1) (.fz (intLr h)) := by simp only [st2, List.take_length]
      rw [← s0, ← s1]
      refine sd_for (Ei.is (ei_list (ed_sl (ed_fz 5 rfl) (eo_some (ed_int 1)) eo_none rs_lst)) (show cutD _ (some ((1 : Nat) : Int)) none = hs.map intLr by rw [cutD_from]; rfl)) (loopF_ix hs intLr st2 fun i hi => ?_)
      have ix := hm hs[i] (List.mem_cons_of_mem _ (List.getElem_mem hi))
      have lx : hs[i].length = n := LL _ ix
      refine ⟨[1], _, eg_name 1, Sd.lpLe (Γ1 := [.fz RD, .fz (intLr hs[i]), .ow ((rst ++ (hs.take (i + 1)).map (crossR p h)).map intLr), .fz (.int ((found + 1 : Nat) : Int)), .fz (.int (p : Nat)), .fz (.lst ((h :: hs).map intLr)), .fz (intLr h), .no, .no]) (Sd.toLp (sd_is (sd_app 2 rfl (d := intLr (crossR p h hs[i])) ?_ ?_) ?_)) (.cons (.inr rfl) (.cons (.inl rfl) (.cons (.inr rfl) (.cons (.inr rfl) (.cons (.inr rfl) (.cons (.inr rfl) (.cons (.inr rfl) (.cons (.inr rfl) (.cons (.inr rfl) .nil)))))))))⟩
      · have z : zp (hs[i].map D.int) (h.map D.int) = (hs[i].zip h).map fun q => D.tup [.int q.1, .int q.2] := by
          unfold zp
          rw [List.zip_map, List.map_map] <;> rfl
        refine ed_is (ed_map (hs[i].zip h) (fun q => D.tup [.int q.1, .int q.2]) (fun q => .int (at' h p * q.1 - at' hs[i] p * q.2)) (Ei.is (ei_zip (ea_cons (ed_fz 1 rfl) (ea_cons (ed_fz 6 rfl) ea_nil))) z) (by rw [List.length_zip]; omega) fun q hq => ⟨[7, 8], _, eg_tup (egs_cons (eg_name 7) (egs_cons (eg_name 8) egs_nil)) rfl, by simp, ?_⟩) ?_
        · obtain ⟨h1, h2⟩ := List.of_mem_zip hq
          have at_of : ∀ (r : List Int) (x : Int), r ∈ left → x ∈ r → x.natAbs < 2 ^ rkB 22 found := fun r x hr hx => by
            obtain ⟨k, hk, rfl⟩ := List.mem_iff_getElem.mp hx
            have := B r hr k
            unfold at' at this
            rwa [getD_at hk] at this
          have bg : ∀ {a b : Int}, a.natAbs < 2 ^ rkB 22 found → b.natAbs < 2 ^ rkB 22 found → CBig a b := fun ha hb => CBig.of ha hb wB0 wB0 (by omega)
          exact ed_op (ed_op (ed_at (i := 6) (j := 4) rfl rfl (by rw [lh]; exact hp)) (ed_fz 7 rfl) (r2_mulI (bg (B h ih p) (at_of _ _ ix h1)))) (ed_op (ed_at (i := 1) (j := 4) rfl rfl (by rw [lx]; exact hp)) (ed_fz 8 rfl) (r2_mulI (bg (B _ ix p) (at_of _ _ ih h2)))) r2_subI
        · unfold intLr crossR
          rw [zw_zip, List.map_map]
          rfl
      · rw [List.length_map, List.length_append, List.length_map, List.length_take]; omega
      · have e2 : hs.take (i + 1) = hs.take i ++ [hs[i]] := by rw [List.take_add_one, List.getElem?_eq_getElem hi]; rfl
        rw [e2]
        simp only [List.map_append, List.append_assoc]
        rfl

/-! ### the law's sums -/
def Slsq : List D → D → Prop := fun ds d => ∃ (n m : Nat) (c : Nat → Rat) (T : Nat → Rw), ds = [rowQ m c, .lst ((List.range m).map fun i => rowQ n (T i)), .int (n : Nat)] ∧ n ≤ 100 ∧ m ≤ 9 ∧ (∀ i, i < m → NB 300 300 (c i)) ∧ (∀ i, i < m → ∀ k, k < n → NB 24 5 (T i k)) ∧ d = rowQ n (cb c T m)
theorem sums_nb {m : Nat} {f : Nat → Rat} (h : ∀ i, i < m → NB 324 305 (f i)) : ∀ i, i ≤ m → i ≤ 9 → NB (i * 4000 + 1) (i * 305 + 1) (sm f i)
  | 0, _, _ => nb_zero (by decide)
  | i + 1, hi, h9 => by
    have z := (sums_nb h i (by omega) (by omega)).add (h i (by omega))
    exact z.mono (by omega) (by omega)
theorem ok_lsums (T : Tx K mg a_WeighError a_Nought a_NoText a_NoRow a_NoMachine a_NoWord a_OtherSigns a_TooMany a_Span a_NONE a_WHOLE) (c__law_plus : Cl P w K mg base CX0 3 "_law_plus" (spR K Splq)) (c__law_times : Cl P w K mg base CX0 3 "_law_times" (spR K Stiq)) : Cl P w K mg base CX0 4 "_law_sums" (spR K Slsq) := by
  refine clR T.d__law_sums sc_law_sums (fun ds d h => by obtain ⟨_, _, _, _, rfl, _⟩ := h; rfl) fun f cdv A outer s H E hr => ?_
  refine ⟨_, (pss_cons (ps_set (i := 3) sc_law_sums.nd rfl (by first | exact Or.inl rfl | exact Or.inr rfl) (pe_lst pa_nil))
  (pss_cons (ps_for PassesOwn.never rfl (pi_range1 rfl T.n_range (pa_cons (pv 2) pa_nil)) (pg_name (i := 4) sc_law_sums.nd rfl (by first | exact Or.inl rfl | exact Or.inr rfl))
  (pss_cons (ps_set (i := 5) sc_law_sums.nd rfl (by first | exact Or.inl rfl | exact Or.inr rfl) (pe_tup (pa_cons pe_int (pa_cons pe_int pa_nil))))
  (pss_cons (ps_for PassesOwn.never rfl (pi_zip (by rfl) T.n_zip (pa_cons (pv 0) (pa_cons (pv 1) pa_nil))) (pg_tup rfl (pgs_cons (pg_name (i := 6) sc_law_sums.nd rfl (by first | exact Or.inl rfl | exact Or.inr rfl)) (pgs_cons (pg_name (i := 7) sc_law_sums.nd rfl (by first | exact Or.inl rfl | exact Or.inr rfl)) pgs_nil)))
  (pss_one (ps_set (i := 5) sc_law_sums.nd rfl (by first | exact Or.inl rfl | exact Or.inr rfl) (pcl c__law_plus hr (by decide) rfl (pa_cons (pv 5) (pa_cons (pcl c__law_times hr (by decide) rfl (pa_cons (pv 6) (pa_cons (pe_ix ix_seq (pv 7) (pv 4) (fun _ _ => rfl)) pa_nil))) pa_nil))))))
  (pss_one (ps_expr (pe_bm PySem.F.plainAttrs_list PySem.F.slot_list_append PySem.F.type_list_append mt_append (pv 3) (pa_cons (pv 5) pa_nil)))))))
  (pss_one (ps_ret (pv 3))))), fun ds d h => ?_⟩
  obtain ⟨n, m, c, R, rfl, hn, hm, bc, bR, rfl⟩ := h
  have lim : LIM = 8990 := rfl
  let PD : D := rowQ m c
  let KD : D := .lst ((List.range m).map fun i => rowQ n (R i))
  let tot : Nat → Nat → Rat := fun k i => sm (fun i => c i * R i k) i
  let st : Nat → Gam := fun k => [.fz PD, .fz KD, .fz (.int (n : Nat)), .ow ((List.range k).map fun k => shq (tot k m)), .no, .no, .no, .no]
  refine sd_seq (Γ1 := st 0) (sd_setW 3 (ew_lst ea_nil)) ?_
  refine sd_seq (Γ1 := st n) (sd_for (Ei.is (ei_rng1 (n := (n : Int)) (ea_cons (ed_fz 2 rfl) ea_nil) (by omega)) (show _ = rg 0 n by rw [Int.toNat_natCast])) (loopF_rg n st fun k hk => ?_)) (sd_freeze 3 rfl (sd_ret (ed_fz 3 rfl)))
  let S3 : Sl := .ow ((List.range k).map fun k => shq (tot k m))
  let G : Sl → Gam := fun t => [.fz PD, .fz KD, .fz (.int (n : Nat)), S3, .fz (.int (k : Nat)), t, .no, .no]
  refine ⟨[4], G .no, eg_name 4, Sd.lpLe (Γ1 := [.fz PD, .fz KD, .fz (.int (n : Nat)), .ow ((List.range (k + 1)).map fun k => shq (tot k m)), .fz (.int (k : Nat)), .fz (shq (tot k m)), .no, .no]) (Sd.toLp ?_) (.cons (.inr rfl) (.cons (.inr rfl) (.cons (.inr rfl) (.cons (.inr rfl) (.cons (.inl rfl) (.cons (.inl rfl) (.cons (.inr rfl) (.cons (.inr rfl) .nil))))))))⟩
  refine sd_seq (Γ1 := G (.fz (shq (tot k 0)))) (sd_set 5 (ed_tup (ea_cons (ed_int 0) (ea_cons (ed_int 1) ea_nil)))) ?_
  have z : zp ((List.range m).map fun i => shq (c i)) ((List.range m).map fun i => rowQ n (R i)) = (List.range m).map fun i => D.tup [shq (c i), rowQ n (R i)] := by
    unfold zp
    rw [List.zip_map', List.map_map]
    rfl
  refine sd_seq (Γ1 := G (.fz (shq (tot k m)))) (sd_for (Ei.is (ei_zip (ea_cons (ed_fz 0 rfl) (ea_cons (ed_fz 1 rfl) ea_nil))) z) (loopF_rm m (fun i => D.tup [shq (c i), rowQ n (R i)]) (fun i => G (.fz (shq (tot k i)))) fun i hi => ?_)) (sd_is (sd_app 3 rfl (ed_fz 5 rfl) (by rw [List.length_map, List.length_range]; omega)) ?_)
  · refine ⟨[6, 7], [.fz PD, .fz KD, .fz (.int (n : Nat)), S3, .fz (.int (k : Nat)), .fz (shq (tot k i)), .fz (shq (c i)), .fz (rowQ n (R i))], eg_tup (egs_cons (eg_name 6) (egs_cons (eg_name 7) egs_nil)) rfl, ?_⟩
    refine Sd.lpLe (Γ1 := [.fz PD, .fz KD, .fz (.int (n : Nat)), S3, .fz (.int (k : Nat)), .fz (shq (tot k (i + 1))), .fz (shq (c i)), .fz (rowQ n (R i))]) (Sd.toLp (sd_set 5 ?_)) (.cons (.inr rfl) (.cons (.inr rfl) (.cons (.inr rfl) (.cons (.inr rfl) (.cons (.inr rfl) (.cons (.inr rfl) (.cons (.inl rfl) (.cons (.inl rfl) .nil))))))))
    have b1 := bc i hi
    have b2 := bR i hi k hk
    have bs := sums_nb (f := fun i => c i * R i k) (m := m) (fun j hj => (bc j hj).mul (bR j hj k hk)) i (by omega) (by omega)
    exact ed_call (ea_cons (ed_fz 5 rfl) (ea_cons (ed_call (ea_cons (ed_fz 6 rfl) (ea_cons (ed_op (ed_fz 7 rfl) (ed_fz 4 rfl) (r2_ixL (rowQ_at _ hk))) ea_nil)) ⟨_, _, rfl, okq_nb b1 b2 (by omega), rfl⟩) ea_nil)) ⟨_, _, rfl, okq_nb bs (b1.mul b2) (by omega), rfl⟩
  · rw [range_succ_map]; rfl

/-! ### the law's rows -/
def seedC (c : Int) (k : Nat) : Int := (c / 18 + 7919 * (k : Nat)) * 48271 % 1000003
def seedV (s : Int) : List Int := [0, s / 4 % 11 - 5, s / 4 % 3, s - 500000]
def seedT (s : Int) : Int := (seedV s).getD (s % 4).toNat 0
def topsF (c : Int) (n : Nat) (kept : List (List Int)) : List Int :=
  if c / 3 % 6 = 0 then List.replicate n 0
  else if c / 3 % 6 = 1 ∧ kept ≠ [] then (kept.getD (c / 126 % (kept.length : Int)).toNat []).map fun x => x * (c / 18 % 7 - 3)
  else if c / 3 % 6 = 2 ∧ 1 < kept.length then List.zipWith (fun a b => a + b) (kept.getD 0 []) (kept.getD (c / 18 % (kept.length : Int)).toNat [])
  else (List.range n).map fun k => seedT (seedC c k)
theorem mod_lt' (x : Int) (n : Nat) (h : 0 < n) : (x % (n : Int)).toNat < n := by
  have h1 := Int.emod_nonneg x (show (n : Int) ≠ 0 by omega)
  have h2 := Int.emod_lt_of_pos x (show (0 : Int) < n by omega)
  omega
theorem getD_in {α : Type} {xs : List α} {i : Nat} (h : i < xs.length) (z : α) : xs.getD i z ∈ xs := by
  rw [getD_at h]
  exact List.getElem_mem _
theorem atI_modr {α : Type} (xs : List α) (f : α → D) (x : Int) (h : 0 < xs.length) (z : α) : atI (xs.map f) (x % (xs.length : Int)) = some (f (xs.getD (x % (xs.length : Int)).toNat z)) := by
  have h1 := Int.emod_nonneg x (show (xs.length : Int) ≠ 0 by omega)
  have h2 := mod_lt' x xs.length h
  have e : x % (xs.length : Int) = ((x % (xs.length : Int)).toNat : Int) := by omega
  rw [e, Int.toNat_natCast, atI_nat' (by rw [List.length_map]; exact h2), List.getElem_map, getD_at h2]
theorem atI_map {α : Type} (l : List α) (f : α → D) (a : α) {i : Nat} (h : i < l.length) : atI (l.map f) (i : Int) = some (f (l.getD i a)) := by
  rw [atI_nat' (by simpa using h), List.getElem_map, getD_at h]
theorem seedT_lt (s : Int) (h : 0 ≤ s ∧ s < 1000003) : (seedT s).natAbs < 2 ^ 19 := by
  unfold seedT seedV
  have h4 : (s % 4).toNat < 4 := mod_lt' s 4 (by decide)
  match hq : (s % 4).toNat, h4 with
  | 0, _ => show (0 : Int).natAbs < _; decide
  | 1, _ => show (s / 4 % 11 - 5).natAbs < _; omega
  | 2, _ => show (s / 4 % 3).natAbs < _; omega
  | 3, _ => show (s - 500000).natAbs < _; omega
theorem at_of_mem {r : List Int} {w : Nat} (h : ∀ x ∈ r, x.natAbs < 2 ^ w) (k : Nat) : (at' r k).natAbs < 2 ^ w := by
  unfold at'
  by_cases hk : k < r.length
  · rw [getD_at hk]; exact h _ (List.getElem_mem _)
  · rw [List.getD_eq_getElem?_getD, List.getElem?_eq_none (by omega)]
    exact Nat.pow_pos (by decide)
theorem mem_of_at {r : List Int} {w : Nat} (h : ∀ k, (at' r k).natAbs < 2 ^ w) : ∀ x ∈ r, x.natAbs < 2 ^ w := fun x hx => by
  obtain ⟨k, hk, rfl⟩ := List.mem_iff_getElem.mp hx
  have := h k
  unfold at' at this
  rwa [getD_at hk] at this
theorem topsF_len {c : Int} {n : Nat} {kept : List (List Int)} (hl : ∀ r ∈ kept, r.length = n) : (topsF c n kept).length = n := by
  unfold topsF
  split
  · exact List.length_replicate
  · split
    · rename_i h
      rw [List.length_map]
      exact hl _ (getD_in (mod_lt' _ _ (List.length_pos_iff.mpr h.2)) _)
    · split
      · rename_i h
        rw [List.length_zipWith, hl _ (getD_in (by omega) _), hl _ (getD_in (mod_lt' _ _ (by omega)) _), Nat.min_self]
      · rw [List.length_map, List.length_range]
theorem topsF_lt {c : Int} {n : Nat} {kept : List (List Int)} (hb : ∀ r ∈ kept, ∀ x ∈ r, x.natAbs < 2 ^ 19) : ∀ x ∈ topsF c n kept, x.natAbs < 2 ^ 21 := by
  unfold topsF
  split
  · intro x hx
    rw [(List.mem_replicate.mp hx).2]
    decide
  · split
    · rename_i h
      intro x hx
      obtain ⟨y, hy, rfl⟩ := List.mem_map.mp hx
      have := hb _ (getD_in (mod_lt' _ _ (List.length_pos_iff.mpr h.2)) _) y hy
      have q : (c / 18 % 7 - 3).natAbs ≤ 3 := by omega
      rw [Int.natAbs_mul]
      have := Nat.mul_le_mul (Nat.le_of_lt this) q
      omega
    · split
      · rename_i h
        intro x hx
        rw [zw_zip] at hx
        obtain ⟨q, hq, rfl⟩ := List.mem_map.mp hx
        obtain ⟨h1, h2⟩ := List.of_mem_zip hq
        have a1 := hb _ (getD_in (by omega) _) _ h1
        have a2 := hb _ (getD_in (mod_lt' _ _ (by omega)) _) _ h2
        omega
      · intro x hx
        obtain ⟨k, _, rfl⟩ := List.mem_map.mp hx
        have := seedT_lt (seedC c k) (by unfold seedC; omega)
        omega
theorem rep_one {α : Type} (y : α) (n : Nat) : (List.replicate n [y]).flatten = List.replicate n y := by
  induction n with
  | zero => rfl
  | succ n ih => rw [List.replicate_succ, List.flatten_cons, ih, List.replicate_succ]; rfl
theorem zp_ints (x y : List Int) : zp (x.map D.int) (y.map D.int) = (x.zip y).map fun q => D.tup [.int q.1, .int q.2] := by
  unfold zp
  rw [List.zip_map, List.map_map] <;> rfl
def Stb : List D → D → Prop := fun ds d => ∃ (c : Int) (n : Nat) (kept : List (List Int)), ds = [.int c, .int (n : Nat), .lst (kept.map intLr)] ∧ c.natAbs < 2 ^ 1048577 ∧ n ≤ 100 ∧ kept.length ≤ 14 ∧ (∀ r ∈ kept, r.length = n) ∧ (∀ r ∈ kept, ∀ x ∈ r, x.natAbs < 2 ^ 19) ∧ d = intLr (topsF c n kept)
theorem sd_retI {E : XK} {Γ : Gam} {te : TE} {ds : List D} {xs : List Int} (h : Ew K te Γ ds) (e : D.lst ds = intLr xs) : Sd K E (tRet te) Γ (.rn (intLr xs)) := sd_retL h (fun d hd => by
    have e' : ds = xs.map D.int := D.lst.inj e
    rw [e'] at hd
    obtain ⟨i, _, rfl⟩ := List.mem_map.mp hd
    exact lf_int i) e
theorem ok_tops_by (T : Tx K mg a_WeighError a_Nought a_NoText a_NoRow a_NoMachine a_NoWord a_OtherSigns a_TooMany a_Span a_NONE a_WHOLE) : Cl P w K mg base CX0 1 "_law_tops_by" (spN K Stb) := by
  refine clN T.d__law_tops_by sc_law_tops_by (fun ds d h => by obtain ⟨_, _, _, rfl, _⟩ := h; rfl) fun f cdv A outer s H E hr => ?_
  refine ⟨_, (pss_cons (ps_set (i := 3) sc_law_tops_by.nd rfl (by first | exact Or.inl rfl | exact Or.inr rfl) (pe_op op_mod (pe_op opFd (pv 0) pe_int) pe_int))
  (pss_cons (ps_if (pt_cmpR (op_eqD hr.units) (pv 3) pe_int (nomark _))
  (pss_one (ps_ret (pe_op opMul (pe_lst (pa_cons pe_int pa_nil)) (pv 1))))
  pss_nil)
  (pss_cons (ps_if (PW.pt (pw_and (pt_cmpR (op_eqD hr.units) (pv 3) pe_int (nomark _)) (pw_and1 (pt_cmpR (op_neD hr.units) (pv 2) (pe_lst pa_nil) (nomark _)))))
  (pss_one (ps_ret (pe_lc rfl sc_law_tops_by.nd (own := [("_law_one", 7)]) (pi_list (pe_ix ix_seq (pv 2) (pe_op op_mod (pe_op opFd (pv 0) pe_int) (pe_callB callLen (by rfl) T.n_len bt_len (pa_cons (pv 2) pa_nil))) (fun _ _ => rfl))) (blkOk_by (by kernel_rfl)) (fun _ _ _ _ _ => (pg_name (i := 7) sc_law_tops_by.nd rfl (by first | exact Or.inl rfl | exact Or.inr rfl))) (fun _ _ _ _ _ => pts_nil) (fun _ _ _ _ _ => (pe_op opMul (pv 7) (pe_op op_sub (pe_op op_mod (pe_op opFd (pv 0) pe_int) pe_int) pe_int))))))
  pss_nil)
  (pss_cons (ps_if (PW.pt (pw_and (pt_cmpR (op_eqD hr.units) (pv 3) pe_int (nomark _)) (pw_and1 (pt_cmpR op_gt (pe_callB callLen (by rfl) T.n_len bt_len (pa_cons (pv 2) pa_nil)) pe_int (nomark _)))))
  (pss_one (ps_ret (pe_lc rfl sc_law_tops_by.nd (own := [("_law_one", 7), ("_law_two", 8)]) (pi_zip (by rfl) T.n_zip (pa_cons (pe_ix ix_seq (pv 2) pe_int (fun _ _ => rfl)) (pa_cons (pe_ix ix_seq (pv 2) (pe_op op_mod (pe_op opFd (pv 0) pe_int) (pe_callB callLen (by rfl) T.n_len bt_len (pa_cons (pv 2) pa_nil))) (fun _ _ => rfl)) pa_nil))) (blkOk_by (by kernel_rfl)) (fun _ _ _ _ _ => (pg_cast (pg_tup (n := 2) rfl (pgs_cons (pg_name (i := 7) sc_law_tops_by.nd rfl (by first | exact Or.inl rfl | exact Or.inr rfl)) (pgs_cons (pg_name (i := 8) sc_law_tops_by.nd rfl (by first | exact Or.inl rfl | exact Or.inr rfl)) pgs_nil))) (rfl : _ = gTup K 2 _))) (fun _ _ _ _ _ => pts_nil) (fun _ _ _ _ _ => (pe_op opAdd (pv 7) (pv 8))))))
  pss_nil)
  (pss_cons (ps_setLc (i := 4) rfl sc_law_tops_by.nd rfl rfl (sw_true rfl rfl rfl (by decide +kernel)) (own := [("_law_k", 5)]) (pi_range1 rfl T.n_range (pa_cons (pv 1) pa_nil)) (blkOk_by (by kernel_rfl)) (fun _ _ _ _ _ => (pg_name (i := 5) sc_law_tops_by.nd rfl (by first | exact Or.inl rfl | exact Or.inr rfl))) (fun _ _ _ _ _ => pts_nil) (fun _ _ _ _ _ => (pe_op op_mod (pe_op opMul (pe_op opAdd (pe_op opFd (pv 0) pe_int) (pe_op opMul pe_int (pv 5))) pe_int) pe_int)))
  (pss_one (ps_ret (pe_lc rfl sc_law_tops_by.nd (own := [("_law_seed", 6)]) (pi_list (pv 4)) (blkOk_by (by kernel_rfl)) (fun _ _ _ _ _ => (pg_name (i := 6) sc_law_tops_by.nd rfl (by first | exact Or.inl rfl | exact Or.inr rfl))) (fun _ _ _ _ _ => pts_nil) (fun _ _ _ _ _ => (pe_ix (ix_seqK (K := K) rfl) (pe_lst (pa_cons pe_int (pa_cons (pe_op op_sub (pe_op op_mod (pe_op opFd (pv 6) pe_int) pe_int) pe_int) (pa_cons (pe_op op_mod (pe_op opFd (pv 6) pe_int) pe_int) (pa_cons (pe_op op_sub (pv 6) pe_int) pa_nil))))) (pe_op op_mod (pv 6) pe_int) (fun _ _ => rfl))))))))))), fun ds d h => ?_⟩
  obtain ⟨c, n, kept, rfl, hc, hn, hk, hl, hb, rfl⟩ := h
  let KD : D := .lst (kept.map intLr)
  let G : Sl → Sl → Gam := fun wy sd => [.fz (.int c), .fz (.int (n : Nat)), .fz KD, wy, sd, .no, .no, .no, .no]
  refine sd_seq (Γ1 := G (.fz (.int (c / 3 % 6))) .no) (sd_set 3 (ed_op (ed_op (ed_fz 0 rfl) (ed_int 3) (r2_fdP (by decide))) (ed_int 6) (r2_mod (by decide)))) ?_
  have w6 : ∀ {Γ : Gam} (j : Int), Γ[3]? = some (.fz (.int (c / 3 % 6))) → Et K (tTest (tOp (rEqD K) (tVar 3) (tC (.int j)))) Γ (decide (c / 3 % 6 = j)) := fun j h => et_test (ed_op (ed_fz 3 h) (ed_int j) r2_eqI)
  have lenK : ∀ {Γ : Gam}, Γ[2]? = some (.fz KD) → Ed K (tCB (rLenA K) (tCons (tVar 2) tNil)) Γ (.int (kept.length : Nat)) := fun h => ed_is (ed_cb (ea_cons (ed_fz 2 h) ea_nil) rc_lenL) (congrArg D.int (by rw [List.length_map]))
  unfold topsF
  by_cases h0 : c / 3 % 6 = 0
  · rw [if_pos h0]
    exact sd_stop (sd_ifT (et_is (w6 0 rfl) (decide_eq_true h0)) (id (sd_retI (ew_mulL (ed_lst (ea_cons (ed_int 0) ea_nil)) (ed_fz 1 rfl) (by rw [Int.toNat_natCast]; show 1 * _ ≤ _; omega) (by omega)) (by
      rw [Int.toNat_natCast]
      unfold intLr
      rw [List.map_replicate]
      exact congrArg D.lst (rep_one _ _))))) rfl
  rw [if_neg h0]
  refine sd_seq (Γ1 := G (.fz (.int (c / 3 % 6))) .no) (sd_ifF (et_is (w6 0 rfl) (decide_eq_false h0)) sd_next) ?_
  have tn : Et K (tTest (tOp (rNeD K) (tVar 2) (tLst tNil))) (G (.fz (.int (c / 3 % 6))) .no) (!decide (kept = [])) := et_is (et_test (ed_op (ed_fz 2 rfl) (ed_lst ea_nil) (r2_ne (pl_rowsL kept) (.lst (n := 0) fun d hd => nomatch hd)))) (by rw [eqD_nil]; congr 1; exact decide_eq_decide.mpr List.map_eq_nil_iff)
  have t1 := et_and (w6 (Γ := G (.fz (.int (c / 3 % 6))) .no) 1 rfl) fun _ => tn
  by_cases h1 : c / 3 % 6 = 1 ∧ kept ≠ []
  · rw [if_pos h1]
    have kp := List.length_pos_iff.mpr h1.2
    have hin := getD_in (mod_lt' (c / 126) kept.length kp) ([] : List Int)
    refine sd_stop (sd_ifT (et_is t1 (by rw [decide_eq_true h1.1, decide_eq_false h1.2]; rfl)) (id (sd_retI (ew_map (kept.getD (c / 126 % (kept.length : Int)).toNat []) D.int (fun x => .int (x * (c / 18 % 7 - 3))) (ei_list (ed_op (ed_fz 2 rfl) (ed_op (ed_op (ed_fz 0 rfl) (ed_int 126) (r2_fdP (by decide))) (lenK rfl) (r2_mod (by omega))) (r2_ixL (atI_modr kept intLr _ kp [])))) (by rw [hl _ hin]; omega) fun x hx => ⟨[7], _, eg_name 7, by simp, ed_op (ed_fz 7 rfl) (ed_op (ed_op (ed_op (ed_fz 0 rfl) (ed_int 18) (r2_fdP (by decide))) (ed_int 7) (r2_mod (by decide))) (ed_int 3) r2_subI) (r2_mulI (CBig.of (a := 19) (b := 3) (hb _ hin x hx) (by omega) (by decide) (by decide) (by decide)))⟩) ?_))) rfl
    unfold intLr
    rw [List.map_map]; rfl
  rw [if_neg h1]
  refine sd_seq (Γ1 := G (.fz (.int (c / 3 % 6))) .no) (sd_ifF (et_is t1 (by
    by_cases h : c / 3 % 6 = 1
    · rw [decide_eq_true h, decide_eq_true (Classical.not_not.mp fun z => h1 ⟨h, z⟩)]; rfl
    · rw [decide_eq_false h]; rfl)) sd_next) ?_
  have t2 := et_and (w6 (Γ := G (.fz (.int (c / 3 % 6))) .no) 2 rfl) fun _ => et_test (ed_op (lenK (Γ := G (.fz (.int (c / 3 % 6))) .no) rfl) (ed_int 1) r2_gt)
  by_cases h2 : c / 3 % 6 = 2 ∧ 1 < kept.length
  · rw [if_pos h2]
    have kp : 0 < kept.length := by omega
    have hin := getD_in (mod_lt' (c / 18) kept.length kp) ([] : List Int)
    have hin0 := getD_in kp ([] : List Int)
    refine sd_stop (sd_ifT (et_is t2 (by rw [decide_eq_true h2.1, decide_eq_true (show (1 : Int) < (kept.length : Int) by omega)]; rfl)) (id (sd_retI (ew_map ((kept.getD 0 []).zip (kept.getD (c / 18 % (kept.length : Int)).toNat [])) (fun q => D.tup [.int q.1, .int q.2]) (fun q => .int (q.1 + q.2)) (Ei.is (ei_zip (ea_cons (ed_op (ed_fz 2 rfl) (ed_int 0) (r2_ixL (atI_map kept intLr [] kp))) (ea_cons (ed_op (ed_fz 2 rfl) (ed_op (ed_op (ed_fz 0 rfl) (ed_int 18) (r2_fdP (by decide))) (lenK rfl) (r2_mod (by omega))) (r2_ixL (atI_modr kept intLr _ kp []))) ea_nil))) (zp_ints _ _)) (by rw [List.length_zip, hl _ hin, hl _ hin0]; omega) fun q hq => ⟨[7, 8], _, eg_tup (egs_cons (eg_name 7) (egs_cons (eg_name 8) egs_nil)) rfl, by simp, ed_op (ed_fz 7 rfl) (ed_fz 8 rfl) r2_addI⟩) ?_))) rfl
    unfold intLr
    rw [zw_zip, List.map_map]; rfl
  rw [if_neg h2]
  refine sd_seq (Γ1 := G (.fz (.int (c / 3 % 6))) .no) (sd_ifF (et_is t2 (by
    by_cases h : c / 3 % 6 = 2
    · rw [decide_eq_true h, decide_eq_false (show ¬ (1 : Int) < (kept.length : Int) from fun z => h2 ⟨h, by omega⟩)]; rfl
    · rw [decide_eq_false h]; rfl)) sd_next) ?_
  let SS : List Int := (List.range n).map (seedC c)
  have big : ∀ (M : Nat) (k : Nat), c.natAbs < M → 2 ^ 30 ≤ M → k ≤ 100 → (c / 18 + 7919 * (k : Nat)).natAbs < 2 * M := fun M k h1 h2 h3 => by omega
  refine sd_seq (Γ1 := G (.fz (.int (c / 3 % 6))) (.fz (intLr SS))) (sd_set 4 (ed_is (ed_rg n (fun k => .int (seedC c k)) 5 (by decide) (ed_fz 1 rfl) (by omega) fun k hk => ed_op (ed_op (ed_op (ed_op (ed_fz 0 rfl) (ed_int 18) (r2_fdP (by decide))) (ed_op (ed_int 7919) (ed_fz 5 rfl) (r2_mulI (CBig.of (a := 13) (b := 7) (by decide) (by omega) (by decide) (by decide) (by decide)))) r2_addI) (ed_int 48271) (r2_mulI (CBig.of (a := 1048578) (b := 16) (by
    rw [show (2 : Nat) ^ 1048578 = 2 * 2 ^ 1048577 by rw [show (1048578 : Nat) = 1048577 + 1 from rfl, Nat.pow_succ, Nat.mul_comm]]
    exact big _ k hc (Nat.pow_le_pow_right (by decide) (by decide)) (by omega)) (by decide) (by decide) (by decide) (by decide)))) (ed_int 1000003) (r2_mod (by decide))) (by unfold intLr; rw [List.map_map]; rfl))) ?_
  refine id (sd_retI (ew_map SS D.int (fun s => .int (seedT s)) (ei_list (ed_fz 4 rfl)) (by show ((List.range n).map (seedC c)).length ≤ _; rw [List.length_map, List.length_range]; omega) fun s hs => ⟨[6], _, eg_name 6, by simp, ed_op (ed_is (ed_lst (ea_cons (ed_int 0) (ea_cons (ed_op (ed_op (ed_op (ed_fz 6 rfl) (ed_int 4) (r2_fdP (by decide))) (ed_int 11) (r2_mod (by decide))) (ed_int 5) r2_subI) (ea_cons (ed_op (ed_op (ed_fz 6 rfl) (ed_int 4) (r2_fdP (by decide))) (ed_int 3) (r2_mod (by decide))) (ea_cons (ed_op (ed_fz 6 rfl) (ed_int 500000) r2_subI) ea_nil))))) (show _ = D.lst ((seedV s).map D.int) from rfl)) (ed_op (ed_fz 6 rfl) (ed_int 4) (r2_mod (by decide))) (r2_ixL (atI_modr (seedV s) D.int s (by show 0 < 4; decide) 0))⟩) ?_)
  unfold intLr
  show D.lst _ = D.lst _
  rw [List.map_map, List.map_map]; rfl

/-! ### what is no row of so many places -/
theorem pt_mem {r : List (Int × Int)} : ∀ d ∈ r.map sh, Pt d := fun d hd => by
  obtain ⟨p, _, rfl⟩ := List.mem_map.mp hd
  exact ⟨⟨_, rfl⟩, fun a b h => by cases h; exact ⟨⟨_, rfl⟩, _, rfl⟩⟩
theorem rowK_lst {es : List D} (h : es.length ≤ 1000) (hp : ∀ e ∈ es, Pt e) : RowK (.lst es) := ⟨⟨_, rfl⟩, fun xs e => by cases e; exact ⟨h, hp⟩⟩
theorem rowK_no {d : D} (h : Kd d) (hn : isLs d = false) : RowK d := ⟨h, fun es e => by subst e; cases hn⟩
theorem isRow_bad {n : Nat} {es : List D} {x : D} (hx : x ∈ es) (hs : isSh x = false) : isRow n (.lst es) = false := by
  show (decide (es.length = n) && es.all isSh) = false
  rw [Bool.and_eq_false_iff]
  refine .inr ?_
  rw [List.all_eq_false]
  exact ⟨x, hx, by rw [hs]; decide⟩
theorem isRow_len {n : Nat} {es : List D} (h : es.length ≠ n) : isRow n (.lst es) = false := by
  show (decide (es.length = n) && es.all isSh) = false
  rw [decide_eq_false h, Bool.false_and]
theorem cutD_last (ds : List D) : cutD ds none (some (-1)) = ds.take (ds.length - 1) := by
  unfold DL.cutD
  rw [HT.sIx_none, List.drop_zero, Nat.sub_zero]
  congr 1
  unfold HT.sIx
  simp
  omega
theorem atI_modD (ds : List D) (x : Int) (h0 : 0 < ds.length) (z : D) : atI ds (x % (ds.length : Int)) = some (ds.getD (x % (ds.length : Int)).toNat z) :=
  atI_getD (Int.emod_nonneg _ (by omega)) (Int.emod_lt_of_pos _ (by omega)) z
def cutL (r : List (Int × Int)) : List D := (r.map sh).take (r.length - 1)
def wr1 (r : List (Int × Int)) : List D := [.non, .tup (r.map sh), .lst (r.map sh ++ [.tup [.int 0, .int 1]]), .lst (cutL r ++ [.int 1]), .lst (cutL r ++ [.tup [.int 2, .int 4]]), .lst (cutL r ++ [.tup [.int 1, .int 0]]), .str "row", .dct]
def wr2 (r : List (Int × Int)) : List D := (List.replicate (if (!decide (r.map sh = [])) = true then (1 : Int) else 0).toNat [D.lst (cutL r)]).flatten ++ wr1 r ++ [.lst (cutL r ++ [.tup [.bl true, .int 1]]), .lst (cutL r ++ [.lst [.int 1, .int 1]]), .lst (r.map sh ++ (List.replicate (9 : Int).toNat [D.tup [.int 1, .int 1]]).flatten)]
def wr3 (r : List (Int × Int)) : List D := wr2 r ++ [.lst (cutL r ++ [.tup [.dct, .int 1]]), .lst (cutL r ++ [.tup [.int 1, .lst [.int 1]]])]
def wrongC (c : Int) (r : List (Int × Int)) : D := (wr3 r).getD (c % ((wr3 r).length : Int)).toNat .non
theorem wr3_len (r : List (Int × Int)) : 0 < (wr3 r).length := by unfold wr3; simp
theorem wrong_ok (c : Int) {r : List (Int × Int)} (hr : r.length ≤ 100) : RowK (wrongC c r) ∧ isRow r.length (wrongC c r) = false := by
  have one : ∀ a b : D, Kd a → Kd b → Pt (.tup [a, b]) := fun a b ha hb => ⟨⟨_, rfl⟩, fun x y e => by cases e; exact ⟨ha, hb⟩⟩
  have no2 : ∀ d : D, Kd d → (∀ a b, d ≠ .tup [a, b]) → Pt d := fun d h n => ⟨h, fun a b e => absurd e (n a b)⟩
  have cl : (cutL r).length = r.length - 1 := by unfold cutL; rw [List.length_take, List.length_map]; omega
  have cp : ∀ d ∈ cutL r, Pt d := fun d hd => pt_mem d (List.mem_of_mem_take hd)
  have app : ∀ {x : D}, Pt x → ∀ d ∈ cutL r ++ [x], Pt d := fun hx d hd => by
    rcases List.mem_append.mp hd with h | h
    · exact cp d h
    · rw [List.mem_singleton] at h
      subst h
      exact hx
  have bad : ∀ {x : D}, Pt x → isSh x = false → RowK (.lst (cutL r ++ [x])) ∧ isRow r.length (.lst (cutL r ++ [x])) = false := fun hx hs => ⟨rowK_lst (by rw [List.length_append, cl]; show _ + 1 ≤ _; omega) (app hx), isRow_bad (by simp) hs⟩
  have all : ∀ d ∈ wr3 r, RowK d ∧ isRow r.length d = false := by
    intro d hd
    unfold wr3 wr2 wr1 at hd
    simp only [List.mem_append] at hd
    rcases hd with ((hd | hd) | hd) | hd
    · by_cases h0 : r.map sh = []
      · rw [decide_eq_true h0] at hd
        simp at hd
      · rw [decide_eq_false h0] at hd
        have e : d = .lst (cutL r) := by simpa using hd
        subst e
        have : r.length ≠ 0 := fun z => h0 (by rw [List.eq_nil_of_length_eq_zero z]; rfl)
        exact ⟨rowK_lst (by omega) cp, isRow_len (by omega)⟩
    · revert d
      simp only [List.forall_mem_cons]
      refine ⟨⟨rowK_no ⟨_, rfl⟩ rfl, rfl⟩, ⟨rowK_no ⟨_, rfl⟩ rfl, rfl⟩, ⟨rowK_lst ?_ ?_, isRow_len ?_⟩, bad (no2 _ ⟨_, rfl⟩ fun a b e => by cases e) rfl, bad (one _ _ ⟨_, rfl⟩ ⟨_, rfl⟩) (by decide +kernel), bad (one _ _ ⟨_, rfl⟩ ⟨_, rfl⟩) (by decide +kernel), ⟨rowK_no ⟨_, rfl⟩ rfl, rfl⟩, ⟨rowK_no ⟨_, rfl⟩ rfl, rfl⟩, fun x hx => nomatch hx⟩
      · rw [List.length_append, List.length_map]; show _ + 1 ≤ _; omega
      · intro d hd
        rcases List.mem_append.mp hd with h | h
        · exact pt_mem d h
        · rw [List.mem_singleton] at h
          subst h
          exact one _ _ ⟨_, rfl⟩ ⟨_, rfl⟩
      · rw [List.length_append, List.length_map]; show _ + 1 ≠ _; omega
    · revert d
      simp only [List.forall_mem_cons]
      refine ⟨bad (one _ _ ⟨_, rfl⟩ ⟨_, rfl⟩) rfl, bad (no2 _ ⟨_, rfl⟩ fun a b e => by cases e) rfl, ⟨rowK_lst ?_ ?_, isRow_len ?_⟩, fun x hx => nomatch hx⟩
      · rw [show (9 : Int).toNat = 9 from rfl, List.length_append, List.length_map, rep_one, List.length_replicate]; omega
      · intro d hd
        rcases List.mem_append.mp hd with h | h
        · exact pt_mem d h
        · rw [rep_one] at h
          rw [(List.mem_replicate.mp h).2]
          exact one _ _ ⟨_, rfl⟩ ⟨_, rfl⟩
      · rw [show (9 : Int).toNat = 9 from rfl, List.length_append, List.length_map, rep_one, List.length_replicate]; omega
    · revert d
      simp only [List.forall_mem_cons]
      exact ⟨bad (one _ _ ⟨_, rfl⟩ ⟨_, rfl⟩) rfl, bad (one _ _ ⟨_, rfl⟩ ⟨_, rfl⟩) rfl, fun x hx => nomatch hx⟩
  exact all _ (getD_in (mod_lt' _ _ (wr3_len r)) _)
def Swr : List D → D → Prop := fun ds d => ∃ (c : Int) (r : List (Int × Int)), ds = [.int c, shL r] ∧ r.length ≤ 100 ∧ d = wrongC c r
theorem pl_shL (ps : List (Int × Int)) : Pl 2 (shL ps) := .lst fun d hd => by
  obtain ⟨p, _, rfl⟩ := List.mem_map.mp hd
  exact pl_sh p
theorem ok_wrong (T : Tx K mg a_WeighError a_Nought a_NoText a_NoRow a_NoMachine a_NoWord a_OtherSigns a_TooMany a_Span a_NONE a_WHOLE) : Cl P w K mg base CX0 1 "_law_wrong" (spR K Swr) := by
  refine clR T.d__law_wrong sc_law_wrong (fun ds d h => by obtain ⟨_, _, rfl, _⟩ := h; rfl) fun f cdv A outer s H E hr => ?_
  refine ⟨_, (pss_cons (ps_set (i := 2) sc_law_wrong.nd rfl (by first | exact Or.inl rfl | exact Or.inr rfl) (pe_lst (pa_cons pe_non (pa_cons (pe_callTy call_tuple_of (by rfl) T.n_tuple bt_tuple (pa_cons (pv 1) pa_nil)) (pa_cons (pe_op opAdd (pv 1) (pe_lst (pa_cons (pe_tup (pa_cons pe_int (pa_cons pe_int pa_nil))) pa_nil))) (pa_cons (pe_op opAdd (pe_slice slA (pv 1) po_none (po_some (pe_un un_neg pe_int))) (pe_lst (pa_cons pe_int pa_nil))) (pa_cons (pe_op opAdd (pe_slice slA (pv 1) po_none (po_some (pe_un un_neg pe_int))) (pe_lst (pa_cons (pe_tup (pa_cons pe_int (pa_cons pe_int pa_nil))) pa_nil))) (pa_cons (pe_op opAdd (pe_slice slA (pv 1) po_none (po_some (pe_un un_neg pe_int))) (pe_lst (pa_cons (pe_tup (pa_cons pe_int (pa_cons pe_int pa_nil))) pa_nil))) (pa_cons pe_str (pa_cons pe_dnewK pa_nil))))))))))
  (pss_cons (ps_set (i := 2) sc_law_wrong.nd rfl (by first | exact Or.inl rfl | exact Or.inr rfl) (pe_op opAdd (pe_op opAdd (pe_op opMul (pe_lst (pa_cons (pe_slice slA (pv 1) po_none (po_some (pe_un un_neg pe_int))) pa_nil)) (pe_callTy callInt (by rfl) T.n_int bt_int (pa_cons (pe_cmpR (op_neD hr.units) (pv 1) (pe_lst pa_nil) (nomark _)) pa_nil))) (pv 2)) (pe_lst (pa_cons (pe_op opAdd (pe_slice slA (pv 1) po_none (po_some (pe_un un_neg pe_int))) (pe_lst (pa_cons (pe_tup (pa_cons pe_bl (pa_cons pe_int pa_nil))) pa_nil))) (pa_cons (pe_op opAdd (pe_slice slA (pv 1) po_none (po_some (pe_un un_neg pe_int))) (pe_lst (pa_cons (pe_lst (pa_cons pe_int (pa_cons pe_int pa_nil))) pa_nil))) (pa_cons (pe_op opAdd (pv 1) (pe_op opMul (pe_lst (pa_cons (pe_tup (pa_cons pe_int (pa_cons pe_int pa_nil))) pa_nil)) pe_int)) pa_nil))))))
  (pss_cons (ps_set (i := 2) sc_law_wrong.nd rfl (by first | exact Or.inl rfl | exact Or.inr rfl) (pe_op opAdd (pv 2) (pe_lst (pa_cons (pe_op opAdd (pe_slice slA (pv 1) po_none (po_some (pe_un un_neg pe_int))) (pe_lst (pa_cons (pe_tup (pa_cons pe_dnewK (pa_cons pe_int pa_nil))) pa_nil))) (pa_cons (pe_op opAdd (pe_slice slA (pv 1) po_none (po_some (pe_un un_neg pe_int))) (pe_lst (pa_cons (pe_tup (pa_cons pe_int (pa_cons (pe_lst (pa_cons pe_int pa_nil)) pa_nil))) pa_nil))) pa_nil)))))
  (pss_one (ps_ret (pe_ix ix_seq (pv 2) (pe_op op_mod (pv 0) (pe_callB callLen (by rfl) T.n_len bt_len (pa_cons (pv 2) pa_nil))) (fun _ _ => rfl))))))), fun ds d h => ?_⟩
  obtain ⟨c, r, rfl, hl, rfl⟩ := h
  have cl : (cutL r).length ≤ 100 := by unfold cutL; rw [List.length_take, List.length_map]; omega
  have ct : ∀ {Γ : Gam}, Γ[1]? = some (.fz (shL r)) → Ed K (tSl (rSlA K) (tVar 1) tNoPart (tPart (tUn (rU fun i => .int (-i)) (tC (.int 1))))) Γ (.lst (cutL r)) := fun h => ed_is (ed_sl (ed_fz 1 h) eo_none (eo_some (ed_un (ed_int 1) r1_neg)) rs_lst) (congrArg D.lst (by rw [show (-(1 : Int)) = -1 from rfl, cutD_last, List.length_map]; rfl))
  have pls : ∀ {Γ : Gam} {te : TE} {x : D}, Γ[1]? = some (.fz (shL r)) → Ed K te Γ x → Ed K (tOp rAddA (tSl (rSlA K) (tVar 1) tNoPart (tPart (tUn (rU fun i => .int (-i)) (tC (.int 1))))) (tLst (tCons te tNil))) Γ (.lst (cutL r ++ [x])) := fun h hx => ed_op (ct h) (ed_lst (ea_cons hx ea_nil)) (r2_addL (by show _ + 1 ≤ _; omega))
  have pr : ∀ {Γ : Gam} {i j : Int}, Ed K (tTup (tCons (tC (.int i)) (tCons (tC (.int j)) tNil))) Γ (.tup [.int i, .int j]) := ed_tup (ea_cons (ed_int _) (ea_cons (ed_int _) ea_nil))
  refine sd_seq (Γ1 := [.fz (.int c), .fz (shL r), .fz (.lst (wr1 r))]) (sd_set 2 (ed_lst (ea_cons ed_non (ea_cons (ed_cb (ea_cons (ed_fz 1 rfl) ea_nil) rc_tupL) (ea_cons (ed_op (ed_fz 1 rfl) (ed_lst (ea_cons pr ea_nil)) (r2_addL (by rw [List.length_map]; show _ + 1 ≤ _; omega))) (ea_cons (pls rfl (ed_int 1)) (ea_cons (pls rfl pr) (ea_cons (pls rfl pr) (ea_cons (ed_str _) (ea_cons ed_dct ea_nil)))))))))) ?_
  have w1l : (wr1 r).length = 8 := rfl
  have rl : ∀ k : Nat, k ≤ 1 → ((List.replicate k [D.lst (cutL r)]).flatten).length ≤ 1 := fun k hk => by rw [rep_one, List.length_replicate]; exact hk
  have k1 : (if (!decide (r.map sh = [])) = true then (1 : Int) else 0).toNat ≤ 1 := by split <;> decide
  refine sd_seq (Γ1 := [.fz (.int c), .fz (shL r), .fz (.lst (wr2 r))]) (sd_set 2 (ed_op (ed_op (ed_op (ed_lst (ea_cons (ct rfl) ea_nil)) (ed_is (ed_cb (ea_cons (ed_op (ed_fz 1 rfl) (ed_lst ea_nil) (r2_ne (pl_shL r) (.lst (n := 0) fun d hd => nomatch hd))) ea_nil) rc_intB) (congrArg D.int (show _ = (if (!decide (r.map sh = [])) = true then (1 : Int) else 0) by show (if (!eqD (.lst (r.map sh)) (.lst [])) = true then _ else _) = _; rw [eqD_nil]))) (r2_mulL (by show 1 * _ ≤ _; omega) (by split <;> omega))) (ed_fz 2 rfl) (r2_addL (by have := rl _ k1; omega))) (ed_lst (ea_cons (pls rfl (ed_tup (ea_cons (ed_bl true) (ea_cons (ed_int 1) ea_nil)))) (ea_cons (pls rfl (ed_lst (ea_cons (ed_int 1) (ea_cons (ed_int 1) ea_nil)))) (ea_cons (ed_op (ed_fz 1 rfl) (ed_op (ed_lst (ea_cons pr ea_nil)) (ed_int 9) (r2_mulL (by decide) (by decide))) (r2_addL (by rw [show (9 : Int).toNat = 9 from rfl, rep_one, List.length_map, List.length_replicate]; omega))) ea_nil)))) (r2_addL (by have := rl _ k1; rw [List.length_append]; show _ + 8 + 3 ≤ _; omega)))) ?_
  have w2l : (wr2 r).length ≤ 12 := by
    unfold wr2
    rw [List.length_append, List.length_append]
    have := rl _ k1
    show _ + 8 + 3 ≤ _
    omega
  refine sd_seq (Γ1 := [.fz (.int c), .fz (shL r), .fz (.lst (wr3 r))]) (sd_set 2 (ed_op (ed_fz 2 rfl) (ed_lst (ea_cons (pls rfl (ed_tup (ea_cons ed_dct (ea_cons (ed_int 1) ea_nil)))) (ea_cons (pls rfl (ed_tup (ea_cons (ed_int 1) (ea_cons (ed_lst (ea_cons (ed_int 1) ea_nil)) ea_nil)))) ea_nil))) (r2_addL (by show _ + 2 ≤ _; omega)))) ?_
  have w3 := wr3_len r
  exact sd_ret (ed_op (ed_fz 2 rfl) (ed_op (ed_fz 0 rfl) (ed_cb (ea_cons (ed_fz 2 rfl) ea_nil) rc_lenL) (r2_mod (by omega))) (r2_ixL (atI_modD (wr3 r) _ w3 _)))

/-! ### a span of the law's and what the law keeps of it -/
structure Own where
  tops : List (List Int)
  scs : List Int
  p : Nat → Nat
  l : Nat → Rw
  q : Nat → Rw
def Own.s (A : Own) (i : Nat) : Rat := ((A.scs.getD i 1 : Int) : Rat)
def Own.T (A : Own) (i : Nat) : Rw := fun k => rowF A.tops i k / A.s i
structure OwnOk (n : Nat) (A : Own) : Prop where
  sl : A.scs.length = A.tops.length
  s1 : ∀ x ∈ A.scs, 1 ≤ x ∧ x ≤ 13
  ln : ∀ r ∈ A.tops, r.length = n
  b : ∀ r ∈ A.tops, ∀ x ∈ r, x.natAbs < 2 ^ 19
  S : Spn n A.tops.length A.T A.p A.l A.q
  z : Szs n A.tops.length A.p A.l A.q 300
  n1 : n ≤ 100
  m8 : A.tops.length ≤ 8
/-- a row: whole numbers over a scale -/
structure RowOk (n : Nat) (xs : List Int) (c : Int) : Prop where
  ln : xs.length = n
  b : ∀ x ∈ xs, x.natAbs < 2 ^ 21
  c1 : 1 ≤ c ∧ c ≤ 13
def rowX (xs : List Int) (c : Int) : Rw := fun k => ((at' xs k : Int) : Rat) / (c : Rat)
theorem ib_int {w : Nat} {z : Int} (h : z.natAbs < 2 ^ w) : IB w (z : Rat) := ⟨z, rfl, h⟩
theorem at_b {w : Nat} {xs : List Int} (h : ∀ x ∈ xs, x.natAbs < 2 ^ w) (k : Nat) : (at' xs k).natAbs < 2 ^ w := by
  unfold at'
  by_cases hk : k < xs.length
  · rw [getD_at hk]; exact h _ (List.getElem_mem hk)
  · rw [List.getD_eq_getElem?_getD, List.getElem?_eq_none (by omega)]
    exact Nat.pow_pos (by decide)
theorem getD_mem {α : Type} {xs : List α} {i : Nat} {d : α} (h : i < xs.length) : xs.getD i d ∈ xs := by
  rw [getD_at h]
  exact List.getElem_mem h
theorem RowOk.c0 {n : Nat} {xs : List Int} {c : Int} (R : RowOk n xs c) : (c : Rat) ≠ 0 := cast_ne (by have := R.c1.1; omega)
theorem RowOk.rwb {n : Nat} {xs : List Int} {c : Int} (R : RowOk n xs c) : Rwb (rowX xs c) (fun k => ((at' xs k : Int) : Rat)) (c : Rat) 21 4 :=
  ⟨fun k => by have := R.c0; unfold rowX; grind, R.c0, fun k => ib_int (at_b R.b k), ib_int (by have := R.c1; omega)⟩
section
variable {n : Nat} {A : Own} {xs : List Int} {c : Int}
theorem OwnOk.s0 (O : OwnOk n A) {i : Nat} (hi : i < A.tops.length) : 1 ≤ A.scs.getD i 1 ∧ A.scs.getD i 1 ≤ 13 := O.s1 _ (getD_mem (by rw [O.sl]; exact hi))
theorem OwnOk.whl (O : OwnOk n A) : Whl A.tops.length A.T (rowF A.tops) A.s := by
  have s0 : ∀ i, i < A.tops.length → A.s i ≠ 0 := fun i hi => cast_ne (by have := (O.s0 hi).1; omega)
  exact ⟨fun i hi k => by
    have := s0 i hi
    unfold Own.T
    grind, s0⟩
theorem OwnOk.bts (O : OwnOk n A) : Bts A.tops.length A.T (rowF A.tops) A.s (fun _ => 21) 4 :=
  ⟨O.whl, fun i hi k => ib_int (Nat.lt_of_lt_of_le (at_b (O.b _ (getD_mem hi)) k) (by decide)), fun i hi => ib_int (by have := O.s0 hi; omega)⟩
theorem bsum_const (c m : Nat) : bsum (fun _ => c) m = m * c := by
  induction m with
  | zero => simp [bsum]
  | succ m ih => rw [bsum, ih, Nat.succ_mul]
theorem OwnOk.wide (O : OwnOk n A) : bsum (fun _ => 21) A.tops.length + 21 + 5 * (A.tops.length + 1) + 1 + 4 ≤ 300 := by
  rw [bsum_const]
  have := O.m8
  omega
theorem OwnOk.ask (O : OwnOk n A) (R : RowOk n xs c) : Ask n A.tops.length A.p A.l A.q (rowX xs c) 300 := by
  have m8 := O.m8
  exact ⟨O.n1, by omega, by decide, by decide, O.S.pn, O.z, fun j hj k _ => O.S.rest_nb O.bts R.rwb (by omega) O.wide hj k, fun j hj i _ => O.S.part_nb O.bts R.rwb (by omega) O.wide hj i⟩
abbrev Own.rs (A : Own) (x : Rw) : Rw := rest A.p A.l x A.tops.length
abbrev Own.pt (A : Own) (x : Rw) : Rw := part A.p A.l A.q x A.tops.length
theorem OwnOk.rank (O : OwnOk n A) (R : RowOk n xs c) : (A.tops.length < rankR n (A.tops ++ [xs]) ↔ leadQ n (A.rs (rowX xs c)) < n) := by
  refine (rank_link (x := rowX xs c) (r := (c : Rat)) O.S O.whl (fun r hr => ?_) R.c0 R.rwb.eq).trans ⟨fun ⟨k, hk, h⟩ => ?_, fun h => ⟨_, h, leadQ_lt h⟩⟩
  · rcases List.mem_append.mp hr with z | z
    · exact O.ln r z
    · rw [List.mem_singleton.mp z]; exact R.ln
  · rcases Nat.lt_or_ge (leadQ n (A.rs (rowX xs c))) n with z | z
    · exact z
    · exact absurd (leadQ_nil (Nat.le_antisymm (leadQ_le n _) z) k hk) h
/-- taken in -/
def Own.put (A : Own) (n : Nat) (xs : List Int) (c : Int) : Own :=
  let x := rowX xs c
  let d := leadQ n (A.rs x)
  ⟨A.tops ++ [xs], A.scs ++ [c], upd1 A.p A.tops.length d, upd1 A.l A.tops.length (newL A.p A.l x A.tops.length d), upd1 A.q A.tops.length (newQ A.p A.l A.q x A.tops.length d)⟩
theorem put_T (hs : A.scs.length = A.tops.length) : (A.put n xs c).T = upd1 A.T A.tops.length (rowX xs c) := by
  funext i
  unfold Own.T Own.s rowF Own.put
  dsimp only
  by_cases e : i = A.tops.length
  · subst e
    rw [upd1_at, getD_app_eq, ← hs, getD_app_eq]
    rfl
  · rw [upd1_ne e]
    by_cases h : i < A.tops.length
    · rw [getD_app_lt h, getD_app_lt (by omega)]
    · have e1 : (A.tops ++ [xs]).getD i [] = A.tops.getD i [] := by
        rw [List.getD_eq_getElem?_getD, List.getD_eq_getElem?_getD, List.getElem?_eq_none (by simp; omega), List.getElem?_eq_none (by omega)]
      have e2 : (A.scs ++ [c]).getD i 1 = A.scs.getD i 1 := by
        rw [List.getD_eq_getElem?_getD, List.getD_eq_getElem?_getD, List.getElem?_eq_none (by simp; omega), List.getElem?_eq_none (by omega)]
      rw [e1, e2]
theorem OwnOk.put (O : OwnOk n A) (R : RowOk n xs c) (h : leadQ n (A.rs (rowX xs c)) < n) (hb : ∀ x ∈ xs, x.natAbs < 2 ^ 19) (h8 : n ≤ 8 ∨ A.tops.length < 8) : OwnOk n (A.put n xs c) := by
  have h0 := leadQ_lt h
  have S := O.S.put h h0
  have len : (A.put n xs c).tops.length = A.tops.length + 1 := by simp [Own.put]
  have ln : ∀ r ∈ A.tops ++ [xs], r.length = n := fun r hr => by
    rcases List.mem_append.mp hr with z | z
    · exact O.ln r z
    · rw [List.mem_singleton.mp z]; exact R.ln
  have m8 := O.m8
  have rk := (O.rank R).mpr h
  have few : A.tops.length + 1 ≤ n := by
    have := rk_le_place (rows := A.tops ++ [xs]) n
    unfold rankR at rk
    omega
  refine ⟨by simp [Own.put, O.sl], fun x hx => ?_, ln, fun r hr => ?_, ?_, ⟨fun j hj k hk => ?_, fun j hj i => ?_⟩, O.n1, by omega⟩
  · rcases List.mem_append.mp hx with z | z
    · exact O.s1 x z
    · rw [List.mem_singleton.mp z]; exact R.c1
  · rcases List.mem_append.mp hr with z | z
    · exact O.b r z
    · rw [List.mem_singleton.mp z]; exact hb
  · rw [put_T O.sl, len]
    exact S
  · rw [len] at hj
    by_cases e : j = A.tops.length
    · subst e
      show NB 300 300 (upd1 A.l A.tops.length _ A.tops.length k)
      rw [upd1_at]
      exact O.S.newL_nb O.bts R.rwb (by omega) O.wide h0 k
    · show NB 300 300 (upd1 A.l A.tops.length _ j k)
      rw [upd1_ne e]
      exact O.z.l j (by omega) k hk
  · rw [len] at hj
    by_cases e : j = A.tops.length
    · subst e
      show NB 300 300 (upd1 A.q A.tops.length _ A.tops.length i)
      rw [upd1_at]
      exact O.S.newQ_nb O.bts R.rwb (by omega) O.wide h0 i
    · show NB 300 300 (upd1 A.q A.tops.length _ j i)
      rw [upd1_ne e]
      exact O.z.q j (by omega) i
theorem own_nil (hn : n ≤ 100) : OwnOk n ⟨[], [], fun _ => 0, fun _ _ => 0, fun _ _ => 0⟩ := ⟨rfl, (fun x h => nomatch h), (fun x h => nomatch h), (fun x h => nomatch h), spn_nil n _ _ _ _, ⟨fun j h => absurd h (Nat.not_lt_zero j), fun j h => absurd h (Nat.not_lt_zero j)⟩, hn, Nat.zero_le _⟩
theorem hangs_add {m : Nat} {T : Nat → Rw} {x y : Rw} (h : Hangs n m T x) (k : Hangs n m T y) (a b : Rat) : Hangs n m T fun i => a * x i + b * y i := by
  obtain ⟨c, hc⟩ := h
  obtain ⟨d, hd⟩ := k
  refine ⟨fun i => a * c i + b * d i, fun k hk => ?_⟩
  dsimp only
  rw [hc k hk, hd k hk]
  unfold cb
  rw [← sm_mul, ← sm_mul, ← sm_add]
  exact sm_congr fun i _ => by grind
theorem hangs_row {m : Nat} {T : Nat → Rw} {i : Nat} (hi : i < m) : Hangs n m T (T i) := ⟨fun j => if j = i then 1 else 0, fun k _ => by
  unfold cb
  rw [sm_one hi fun j _ ne => by dsimp only; rw [if_neg ne]; grind]
  dsimp only
  rw [if_pos rfl]; grind⟩
theorem hangs_zero {m : Nat} {T : Nat → Rw} : Hangs n m T fun _ => 0 := ⟨fun _ => 0, fun k _ => (sm_zero fun i _ => by grind).symm⟩
theorem OwnOk.no_hang (O : OwnOk n A) {x y : Rw} (h : leadQ n (A.rs x) < n) (hy : ∀ k, k < n → x k = y k) : ¬ Hangs n A.tops.length A.T y := fun ⟨c, hc⟩ =>
  leadQ_lt h (O.S.rest_of ⟨c, fun k hk => by rw [hy k hk, hc k hk]⟩ _ h)
/-- a row that is taken in was drawn -/
theorem OwnOk.drawn (O : OwnOk n A) {c0 sc : Int} (hsc : (sc : Rat) ≠ 0) (h : leadQ n (A.rs (rowX (topsF c0 n A.tops) sc)) < n) : ∀ x ∈ topsF c0 n A.tops, x.natAbs < 2 ^ 19 := by
  have row : ∀ i, i < A.tops.length → ∀ k, ((at' (A.tops.getD i []) k : Int) : Rat) = A.s i * A.T i k := fun i hi k => by
    have := O.whl.eq i hi k
    unfold rowF at this
    exact this
  unfold topsF at h ⊢
  split
  · rename_i h1
    rw [if_pos h1] at h
    exact absurd hangs_zero (O.no_hang h fun k hk => by
      unfold rowX at'
      rw [List.getD_eq_getElem?_getD, List.getElem?_replicate, if_pos hk]
      show ((0 : Int) : Rat) / _ = 0
      have : ((0 : Int) : Rat) = 0 := rfl
      rw [this]; grind)
  rename_i h1
  rw [if_neg h1] at h
  split
  · rename_i h2
    rw [if_pos h2] at h
    have kp := List.length_pos_iff.mpr h2.2
    have hi := mod_lt' (c0 / 126) A.tops.length kp
    generalize (c0 / 126 % (A.tops.length : Int)).toNat = i at h hi
    exact absurd (hangs_add (hangs_row (T := A.T) hi) (hangs_row hi) (A.s i * ((c0 / 18 % 7 - 3 : Int) : Rat) / (sc : Rat)) 0) (O.no_hang h fun k hk => by
      have e : at' ((A.tops.getD i []).map fun x => x * (c0 / 18 % 7 - 3)) k = at' (A.tops.getD i []) k * (c0 / 18 % 7 - 3) := by
        unfold at'
        generalize A.tops.getD i [] = L
        rw [List.getD_eq_getElem?_getD, List.getElem?_map, List.getD_eq_getElem?_getD]
        cases L[k]? <;> simp
      unfold rowX
      rw [e, Rat.intCast_mul, row i hi k]
      grind)
  rename_i h2
  rw [if_neg h2] at h
  split
  · rename_i h3
    rw [if_pos h3] at h
    have kp : 0 < A.tops.length := by omega
    have hi := mod_lt' (c0 / 18) A.tops.length kp
    generalize (c0 / 18 % (A.tops.length : Int)).toNat = i at h hi
    exact absurd (hangs_add (hangs_row (T := A.T) kp) (hangs_row hi) (A.s 0 / (sc : Rat)) (A.s i / (sc : Rat))) (O.no_hang h fun k hk => by
      have e : at' (List.zipWith (fun a b => a + b) (A.tops.getD 0 []) (A.tops.getD i [])) k = at' (A.tops.getD 0 []) k + at' (A.tops.getD i []) k := at_zip (by simp) (by rw [O.ln _ (getD_mem kp), O.ln _ (getD_mem hi)]) k
      unfold rowX
      rw [e, Rat.intCast_add, row 0 kp k, row i hi k]
      grind)
  · intro x hx
    obtain ⟨k, _, rfl⟩ := List.mem_map.mp hx
    refine seedT_lt _ ?_
    unfold seedC
    have h1 := Int.emod_nonneg ((c0 / 18 + 7919 * (k : Nat)) * 48271) (show (1000003 : Int) ≠ 0 by decide)
    have h2 := Int.emod_lt_of_pos ((c0 / 18 + 7919 * (k : Nat)) * 48271) (show (0 : Int) < 1000003 by decide)
    exact ⟨h1, h2⟩
end

/-! ### told, tells_good -/
theorem ok_word_NoRow (T : Tx K mg a_WeighError a_Nought a_NoText a_NoRow a_NoMachine a_NoWord a_OtherSigns a_TooMany a_Span a_NONE a_WHOLE) : ClE P w K mg base 1 "_law_word_of" a_NoRow (.tup [.str "refused", .str "row"]) := by
  refine clE T.d__law_word_of sc_law_word_of rfl fun f cdv A outer s H p hz hf hr => ?_
  refine ⟨_, (pss_cons (ps_set (i := 1) sc_law_word_of.nd rfl (by first | exact Or.inl rfl | exact Or.inr rfl) (pe_op opAdd (pe_op opMul (pe_lst (pa_cons pe_str pa_nil)) (pe_callTy callInt (by rfl) T.n_int bt_int (pa_cons (pe_callB (call_isP (p := p) List.mem_cons_self T.ge_NoRow hz hf) (by rfl) T.n_isinstance bt_isinstance (pa_cons (pv 0) (pa_cons (pe_glob (v := .ref a_Nought) rfl T.m_Nought rfl) pa_nil))) pa_nil))) (pe_op opMul (pe_lst (pa_cons pe_str pa_nil)) (pe_callTy callInt (by rfl) T.n_int bt_int (pa_cons (pe_callB (call_isP (p := p) List.mem_cons_self T.ge_NoRow hz hf) (by rfl) T.n_isinstance bt_isinstance (pa_cons (pv 0) (pa_cons (pe_glob (v := .ref a_NoText) rfl T.m_NoText rfl) pa_nil))) pa_nil)))))
  (pss_cons (ps_set (i := 1) sc_law_word_of.nd rfl (by first | exact Or.inl rfl | exact Or.inr rfl) (pe_op opAdd (pe_op opAdd (pv 1) (pe_op opMul (pe_lst (pa_cons pe_str pa_nil)) (pe_callTy callInt (by rfl) T.n_int bt_int (pa_cons (pe_callB (call_isP (p := p) List.mem_cons_self T.ge_NoRow hz hf) (by rfl) T.n_isinstance bt_isinstance (pa_cons (pv 0) (pa_cons (pe_glob (v := .ref a_NoRow) rfl T.m_NoRow rfl) pa_nil))) pa_nil)))) (pe_op opMul (pe_lst (pa_cons pe_str pa_nil)) (pe_callTy callInt (by rfl) T.n_int bt_int (pa_cons (pe_callB (call_isP (p := p) List.mem_cons_self T.ge_NoRow hz hf) (by rfl) T.n_isinstance bt_isinstance (pa_cons (pv 0) (pa_cons (pe_glob (v := .ref a_NoMachine) rfl T.m_NoMachine rfl) pa_nil))) pa_nil)))))
  (pss_cons (ps_set (i := 1) sc_law_word_of.nd rfl (by first | exact Or.inl rfl | exact Or.inr rfl) (pe_op opAdd (pe_op opAdd (pv 1) (pe_op opMul (pe_lst (pa_cons pe_str pa_nil)) (pe_callTy callInt (by rfl) T.n_int bt_int (pa_cons (pe_callB (call_isP (p := p) List.mem_cons_self T.ge_NoRow hz hf) (by rfl) T.n_isinstance bt_isinstance (pa_cons (pv 0) (pa_cons (pe_glob (v := .ref a_NoWord) rfl T.m_NoWord rfl) pa_nil))) pa_nil)))) (pe_op opMul (pe_lst (pa_cons pe_str pa_nil)) (pe_callTy callInt (by rfl) T.n_int bt_int (pa_cons (pe_callB (call_isP (p := p) List.mem_cons_self T.ge_NoRow hz hf) (by rfl) T.n_isinstance bt_isinstance (pa_cons (pv 0) (pa_cons (pe_glob (v := .ref a_OtherSigns) rfl T.m_OtherSigns rfl) pa_nil))) pa_nil)))))
  (pss_cons (ps_set (i := 1) sc_law_word_of.nd rfl (by first | exact Or.inl rfl | exact Or.inr rfl) (pe_op opAdd (pe_op opAdd (pv 1) (pe_op opMul (pe_lst (pa_cons pe_str pa_nil)) (pe_callTy callInt (by rfl) T.n_int bt_int (pa_cons (pe_callB (call_isP (p := p) List.mem_cons_self T.ge_NoRow hz hf) (by rfl) T.n_isinstance bt_isinstance (pa_cons (pv 0) (pa_cons (pe_glob (v := .ref a_TooMany) rfl T.m_TooMany rfl) pa_nil))) pa_nil)))) (pe_op opMul (pe_lst (pa_cons pe_str pa_nil)) (pe_callTy callInt (by rfl) T.n_int bt_int (pa_cons (pe_not (pe_callB (call_isP (p := p) List.mem_cons_self T.ge_NoRow hz hf) (by rfl) T.n_isinstance bt_isinstance (pa_cons (pv 0) (pa_cons (pe_bltn (v := .ty "ValueError") (by rfl) T.n_ValueError bt_ValueError rfl) pa_nil)))) pa_nil)))))
  (pss_one (ps_ret (pe_tup (pa_cons pe_str (pa_cons (pe_join pe_str (pv 1)) pa_nil))))))))), ?_⟩
  have item : ∀ {Γ : Gam} {x : Str} {D' : Addr} {b : Bool}, Γ[0]? = some (.fz (.adr p.1)) → PySem.W.kitOne K (.ref a_NoRow) (.ref D') = some b →
      Ed K (tOp rMulA (tLst (tCons (tC (.str x)) tNil)) (tCB rIntA (tCons (tCB (rIsE K a_NoRow p.1) (tCons (tVar 0) (tCons (tC (.ref D')) tNil))) tNil))) Γ (.lst (if b then [.str x] else [])) := fun {Γ x D' b} h k =>
    ed_is (ed_op (ed_lst (ea_cons (ed_str _) ea_nil)) (ed_cb (ea_cons (ed_cb (ea_cons (ed_fz 0 h) (ea_cons (ed_adr _) ea_nil)) (rc_isP k)) ea_nil) rc_intB) (r2_mulL (Nat.le_of_ble_eq_true (by cases b <;> rfl)) (by cases b <;> decide))) (by cases b <;> rfl)
  have bare : ∀ {Γ : Gam}, Γ[0]? = some (.fz (.adr p.1)) →
      Ed K (tOp rMulA (tLst (tCons (tC (.str "bare")) tNil)) (tCB rIntA (tCons (tNotV (tCB (rIsE K a_NoRow p.1) (tCons (tVar 0) (tCons (tC (.ty "ValueError")) tNil)))) tNil))) Γ (.lst []) := fun {Γ} h =>
    ed_is (ed_op (ed_lst (ea_cons (ed_str _) ea_nil)) (ed_cb (ea_cons (ed_notV (ed_cb (ea_cons (ed_fz 0 h) (ea_cons (ed_ty _) ea_nil)) (rc_isPT T.iv_NoRow))) ea_nil) rc_intB) (r2_mulL (by decide) (by decide))) rfl
  refine sd_seq (sd_set 1 (ed_op (item rfl T.is_NoRow_Nought) (item rfl T.is_NoRow_NoText) (r2_addL (by decide)))) ?_
  refine sd_seq (sd_set 1 (ed_op (ed_op (ed_fz 1 rfl) (item rfl T.is_NoRow_NoRow) (r2_addL (by decide))) (item rfl T.is_NoRow_NoMachine) (r2_addL (by decide)))) ?_
  refine sd_seq (sd_set 1 (ed_op (ed_op (ed_fz 1 rfl) (item rfl T.is_NoRow_NoWord) (r2_addL (by decide))) (item rfl T.is_NoRow_OtherSigns) (r2_addL (by decide)))) ?_
  refine sd_seq (sd_set 1 (ed_op (ed_op (ed_fz 1 rfl) (item rfl T.is_NoRow_TooMany) (r2_addL (by decide))) (bare rfl) (r2_addL (by decide)))) ?_
  exact sd_ret (ed_tup (ea_cons (ed_str _) (ea_cons (ed_join (ys := ["row"]) (ed_str _) (ed_fz 1 rfl) (by decide)) ea_nil)))

def tellsD (n : Nat) (A : Own) (x : Rw) : D := if leadQ n (A.rs x) < n then .non else rowQ A.tops.length (A.pt x)
def spanO (n : Nat) (A : Own) : List (Str × D) := spanF n A.tops.length A.p A.l A.q
def refD : D := .tup [.str "refused", .str "row"]
def Stdq (C : Addr) : List D → D → Prop := fun ds d => ∃ (n : Nat) (A : Own) (wy : Int) (o : D), ds = [.ins C (spanO n A), .int wy, o] ∧ ((∃ xs c, OwnOk n A ∧ RowOk n xs c ∧ wy = 1 ∧ o = rowQ n (rowX xs c) ∧ d = tellsD n A (rowX xs c)) ∨ (RowK o ∧ isRow n o = false ∧ d = refD))
def toldB (K : PySem.W.Frag) (C N : Addr) : WX → TS := fun W => tRet (tIf (tTest (tOp (rEqD K) (tVar 1) (tC (.int 0)))) (tMethSt C "put" (spU K C Sptq (Tpdq C N)) (WE W) (tVar 0) (tCons (tVar 2) tNil)) (tMethSt C "tells" (spXN K (Stlq C) (Tpdq C N)) (WE W) (tVar 0) (tCons (tVar 2) tNil)))
theorem ok_told (T : Tx K mg a_WeighError a_Nought a_NoText a_NoRow a_NoMachine a_NoWord a_OtherSigns a_TooMany a_Span a_NONE a_WHOLE) (c_put : Cm P w K mg base (L2.CX P w) 6 a_Span "put" (spU K a_Span Sptq (Tpdq a_Span a_NoRow))) (c_tells : Cm P w K mg base (L2.CX P w) 6 a_Span "tells" (spXN K (Stlq a_Span) (Tpdq a_Span a_NoRow))) : Cl P w K mg base CX0 7 "_law_told" (spN K (Stdq a_Span)) := by
  have cw := ok_word_NoRow (P := P) (w := w) (base := base) T
  have hW := W1_ok cw
  have hWm := cw.mx
  refine clN T.d__law_told sc_law_told (fun ds d h => by obtain ⟨_, _, _, _, rfl, _⟩ := h; rfl) fun f cdv A outer s H E hr => ?_
  refine ⟨_, (pss_one (ps_try_as (i := 3) (Wout := fun _ _ _ _ => False) rfl rfl sc_law_told.nd rfl rfl ⟨rfl, by decide, .inl T.m_WeighError⟩ takes0 (fun W pn xe tk _ =>
  (pss_one (ps_ret (pe_ifExp (pt_cmpR (op_eqDK (K := K) rfl hr.units) (pv 1) pe_int (nomark _)) (pcmS c_put T.cl_Span hr (by decide) (fun σ => passAt tk σ) (pv 0) (pa_cons (pv 2) pa_nil)) (pcmS c_tells T.cl_Span hr (by decide) (fun σ => passAt tk σ) (pv 0) (pa_cons (pv 2) pa_nil))))))
  (fun a oe cls d pn hz hf => (pss_one (ps_ret (pe_callE hW hWm hr (by decide) hz hf rfl (pa_cons (pv 3) pa_nil))))))), fun ds d h => ?_⟩
  obtain ⟨n, A, wy, o, rfl, h⟩ := h
  have tst : ∀ Γ : Gam, Γ[1]? = some (.fz (.int wy)) → Et K (tTest (tOp (rEqD K) (tVar 1) (tC (.int 0)))) Γ (decide (wy = 0)) := fun Γ h => et_test (ed_op (ed_fz 1 h) (ed_int 0) r2_eqI)
  rcases h with ⟨xs, c, O, R, rfl, rfl, rfl⟩ | ⟨ok, hb, rfl⟩
  · refine sd_calm (tb := toldB K a_Span a_NoRow) fun W => sd_retH (edH_if (tst _ rfl) (fun z => absurd z (by decide)) fun _ => edH_methS (ed_fz 0 rfl) rfl (ea_cons (ed_fz 2 rfl) ea_nil) ⟨n, A.tops.length, A.p, A.l, A.q, rowX xs c, 300, rfl, O.ask R, rfl⟩)
  · have bad : Tpdq a_Span a_NoRow [.ins a_Span (spanO n A), o] a_NoRow := ⟨n, A.tops.length, A.p, A.l, A.q, o, rfl, ok, hb, rfl⟩
    refine sd_rnOf (sd_caught (tb := toldB K a_Span a_NoRow) (Nat.le_of_ble_eq_true rfl) (fun W => ?_) T.em_NoRow W1_self) (lf_strs2 _ _)
    exact sw_ret (xw_ifE (tst _ rfl) (fun _ => xw_methU (ed_fz 0 rfl) rfl (ea_cons (ed_fz 2 rfl) ea_nil) bad) fun _ => xw_methS (ed_fz 0 rfl) rfl (ea_cons (ed_fz 2 rfl) ea_nil) bad)
/-! things beside -/
def topsD (A : Own) : List D := A.tops.map intLr
def rowsD (n : Nat) (A : Own) : List D := (List.range A.tops.length).map fun i => rowQ n (A.T i)
structure Adr where
  s : Addr
  t : Addr
  r : Addr
  c : Addr
def ownD (n : Nat) (a : Adr) : D := .dic [("size", .int (n : Nat)), ("span", .adr a.s), ("tops", .adr a.t), ("rows", .adr a.r), ("copies", .adr a.c)]
def ownV (C : Addr) (n : Nat) (A : Own) (cs : List D) : D := .dic [("size", .int (n : Nat)), ("span", .ins C (spanO n A)), ("tops", .lst (topsD A)), ("rows", .lst (rowsD n A)), ("copies", .lst cs)]
structure Has (C : Addr) (Om : OmT) (n : Nat) (a : Adr) (A : Own) (cs : List D) : Prop where
  s : (a.s, Ow.ins none C (spanO n A)) ∈ Om
  t : (a.t, Ow.lst (topsD A)) ∈ Om
  r : (a.r, Ow.lst (rowsD n A)) ∈ Om
  c : (a.c, Ow.lst cs) ∈ Om
structure Adr.Ne (a : Adr) : Prop where
  st : a.s ≠ a.t
  sr : a.s ≠ a.r
  sc : a.s ≠ a.c
  tr : a.t ≠ a.r
  tc : a.t ≠ a.c
  rc : a.r ≠ a.c
theorem Has.up {C : Addr} {Om : OmT} {n : Nat} {a : Adr} {A : Own} {cs : List D} (h : Has C Om n a A cs) : UpD Om (ownD n a) (ownV C n A cs) := .dic (.cons (.refl _) (.cons (.adr h.s) (.cons (.adr h.t) (.cons (.adr h.r) (.cons (.adr h.c) .nil)))))
theorem om_self {Om : OmT} {a : Addr} {o o' : Ow} (h : (a, o) ∈ Om) : (a, o') ∈ omSet Om a o' := List.mem_map.mpr ⟨_, h, if_pos rfl⟩
theorem om_ne {Om : OmT} {a : Addr} {o' : Ow} {p : Addr × Ow} (h : p ∈ Om) (ne : p.1 ≠ a) : p ∈ omSet Om a o' := List.mem_map.mpr ⟨p, h, if_neg ne⟩
/-- a pair of a told list and its copy -/
def PairD (d : D) : Prop := ∃ v, Pl 2 v ∧ d = .tup [v, v]
structure TgI where
  Om : OmT
  n : Nat
  a : Adr
  A : Own
  cs : List D
  xs : List Int
  c : Int
def TgPre (C : Addr) (i : TgI) (ds : List D) (Om : OmT) : Prop := Om = i.Om ∧ ds = [tellsD i.n i.A (rowX i.xs i.c), intLr i.xs, rowQ i.n (rowX i.xs i.c), ownD i.n i.a] ∧ Has C Om i.n i.a i.A i.cs ∧ OwnOk i.n i.A ∧ RowOk i.n i.xs i.c ∧ i.cs.length ≤ 1000
def TgPost (i : TgI) (d : D) (Om' : OmT) : Prop := d = .bl true ∧ (Om' = i.Om ∨ ∃ e, PairD e ∧ Om' = omSet i.Om i.a.c (.lst (i.cs ++ [e])))
theorem tg_keys {i : TgI} {d : D} {Om' : OmT} (h : TgPost i d Om') : Om'.map (·.1) = i.Om.map (·.1) := by
  rcases h.2 with e | ⟨e, _, q⟩
  · rw [e]
  · rw [q, omSet_keys]
theorem filter_none {α : Type} {xs : List α} {b : α → Bool} (h : ∀ x ∈ xs, b x = false) : xs.filter b = [] := List.filter_eq_nil_iff.mpr fun x hx => by rw [h x hx]; decide
theorem eqvAll_refl : ∀ ds : List D, (∀ d ∈ ds, eqD d d = true) → PyData.eqvAll (D.pyA ds) (D.pyA ds) = true
  | [], _ => by simp [D.pyA, PyData.eqvAll]
  | d :: ds, h => by
    have h1 := h d List.mem_cons_self
    have h2 := eqvAll_refl ds fun x hx => h x (List.mem_cons_of_mem _ hx)
    unfold eqD at h1
    simp only [D.pyA, PyData.eqvAll, h1, h2, Bool.and_self]
theorem eqD_refl {n : Nat} {d : D} (h : Pl n d) : eqD d d = true := by
  induction h with
  | non => rfl
  | bl b => cases b <;> rfl
  | int i => simp [eqD, D.py, PyData.eqv]
  | str h => simp [eqD, D.py, PyData.eqv]
  | lst _ ih =>
    have := eqvAll_refl _ ih
    simp only [eqD, D.py, PyData.eqv, this]
  | tup _ ih =>
    have := eqvAll_refl _ ih
    simp only [eqD, D.py, PyData.eqv, this]
theorem eqD_row {n : Nat} (v : Rw) : eqD (rowQ n v) (rowQ n v) = true := eqD_refl (pl_row n v)
theorem pl_tells (n : Nat) (A : Own) (x : Rw) : Pl 2 (tellsD n A x) := by
  unfold tellsD
  split
  · exact .non
  · exact pl_row _ _
theorem ok_tells_good (T : Tx K mg a_WeighError a_Nought a_NoText a_NoRow a_NoMachine a_NoWord a_OtherSigns a_TooMany a_Span a_NONE a_WHOLE) (c__law_rank : Cl P w K mg base CX0 1 "_law_rank" (spR K Srk)) (c__law_is : Cl P w K mg base CX0 2 "_law_is" (spR K Sli)) (c__law_sums : Cl P w K mg base CX0 4 "_law_sums" (spR K Slsq)) : Cl P w K mg base CX0 5 "_law_tells_good" (spM K (TgPre a_Span) TgPost) := by
  refine clM T.d__law_tells_good sc_law_tells_good (fun i ds Om h => by obtain ⟨_, rfl, _⟩ := h; rfl) fun f cdv A outer s H E hr => ?_
  refine ⟨_, (pss_cons (ps_if (pt_cmpR op_gt (pcl c__law_rank hr (by decide) rfl (pa_cons (pe_op opAdd (pe_dget (units1 hr) (pv 3) pe_str (fun _ _ => rfl)) (pe_lst (pa_cons (pv 1) pa_nil))) pa_nil)) (pe_callB callLen (by rfl) T.n_len bt_len (pa_cons (pe_dget (units1 hr) (pv 3) pe_str (fun _ _ => rfl)) pa_nil)) (nomark _))
  (pss_one (ps_ret (pe_cmp (pc_isN (pv 0)) rfl)))
  pss_nil)
  (pss_cons (ps_if (PW.pt (pw_or (pt_not (pt_val (pe_callB call_isi (by rfl) T.n_isinstance bt_isinstance (pa_cons (pv 0) (pa_cons (pe_bltn (v := .ty "list") (by rfl) T.n_list bt_list rfl) pa_nil))))) (pw_or1 (pt_cmpR (op_neD hr.units) (pe_callB callLen (by rfl) T.n_len bt_len (pa_cons (pv 0) pa_nil)) (pe_callB callLen (by rfl) T.n_len bt_len (pa_cons (pe_dget (units1 hr) (pv 3) pe_str (fun _ _ => rfl)) pa_nil)) (nomark _)))))
  (pss_one (ps_ret pe_bl))
  pss_nil)
  (pss_cons (ps_if (PW.pt (pw_or (pt_cmpR (op_neD hr.units) (pe_lc rfl sc_law_tells_good.nd (own := [("_law_part", 4)]) (pi_list (pv 0)) (blkOk_by (by kernel_rfl)) (fun _ _ _ _ _ => (pg_name (i := 4) sc_law_tells_good.nd rfl (by first | exact Or.inl rfl | exact Or.inr rfl))) (fun _ _ _ _ _ => (pts_one (pt_not (pt_val (pcl c__law_is hr (by decide) rfl (pa_cons (pv 4) (pa_cons (pv 4) pa_nil))))))) (fun _ _ _ _ _ => (pv 4))) (pe_lst pa_nil) (nomark _)) (pw_or1 (pt_cmpR (op_neD hr.units) (pcl c__law_sums hr (by decide) rfl (pa_cons (pv 0) (pa_cons (pe_dget (units1 hr) (pv 3) pe_str (fun _ _ => rfl)) (pa_cons (pe_callB callLen (by rfl) T.n_len bt_len (pa_cons (pv 2) pa_nil)) pa_nil)))) (pv 2) (nomark _)))))
  (pss_one (ps_ret pe_bl))
  pss_nil)
  (pss_cons (ps_expr (pe_bm PySem.F.plainAttrs_list PySem.F.slot_list_append PySem.F.type_list_append mt_append (pe_dget (units1 hr) (pv 3) pe_str (fun _ _ => rfl)) (pa_cons (pe_tup (pa_cons (pv 0) (pa_cons (pe_callTy callList (by rfl) T.n_list bt_list (pa_cons (pv 0) pa_nil)) pa_nil))) pa_nil)))
  (pss_one (ps_ret pe_bl)))))), fun i ds Om h => ?_⟩
  obtain ⟨rfl, rfl, hs, O, R, hc⟩ := h
  obtain ⟨Om, n, a, A, cs, xs, c⟩ := i
  simp only at hs O R hc ⊢
  have n1 := O.n1
  have m8 := O.m8
  let x : Rw := rowX xs c
  let m := A.tops.length
  let fd : D := tellsD n A x
  let Γ : Gam := [.fz fd, .fz (intLr xs), .fz (rowQ n x), .fz (ownD n a), .no]
  let Γv : Gam := [.fz fd, .fz (intLr xs), .fz (rowQ n x), .fz (ownV a_Span n A cs), .no]
  have u : UpG Om Γ Γv := .cons (.same _) (.cons (.same _) (.cons (.same _) (.cons (.up hs.up) (.cons (.same _) .nil))))
  have gt : ∀ {Γ : Gam}, Γ[3]? = some (.fz (ownV a_Span n A cs)) → Ed K (tDGet (tVar 3) (tC (.str "tops"))) Γ (.lst (topsD A)) := fun h => ed_dget (ed_fz 3 h) rfl
  have gr : ∀ {Γ : Gam}, Γ[3]? = some (.fz (ownV a_Span n A cs)) → Ed K (tDGet (tVar 3) (tC (.str "rows"))) Γ (.lst (rowsD n A)) := fun h => ed_dget (ed_fz 3 h) rfl
  have lt : (topsD A).length = m := by simp [topsD, m]
  have lr : (rowsD n A).length = m := by simp [rowsD, m]
  have t1 : Et K (tTest (tOp (rI0 fun i j => .bl (decide (j < i))) (tCall (spR K Srk) [] E0 (tCons (tOp rAddA (tDGet (tVar 3) (tC (.str "tops"))) (tLst (tCons (tVar 1) tNil))) tNil)) (tCB (rLenA K) (tCons (tDGet (tVar 3) (tC (.str "tops"))) tNil)))) Γv (decide (((m : Nat) : Int) < ((rankR n (A.tops ++ [xs]) : Nat) : Int))) := et_test (ed_op (ed_call (ea_cons (ed_is (ed_op (gt rfl) (ed_lst (ea_cons (ed_fz 1 rfl) ea_nil)) (r2_addL (by rw [lt]; show m + 1 ≤ _; omega))) (show _ = D.lst ((A.tops ++ [xs]).map intLr) by rw [List.map_append]; rfl)) ea_nil) ⟨n, A.tops ++ [xs], rfl, by simp, fun r hr => ?_, n1, by simp; omega, fun r hr k => ?_, rfl⟩) (ed_is (ed_cb (ea_cons (gt rfl) ea_nil) rc_lenL) (by rw [lt])) r2_gt)
  rotate_left
  · rcases List.mem_append.mp hr with z | z
    · exact O.ln r z
    · rw [List.mem_singleton.mp z]; exact R.ln
  · refine Nat.lt_of_lt_of_le (at_b (w := 21) (fun y hy => ?_) k) (by decide)
    rcases List.mem_append.mp hr with z | z
    · exact Nat.lt_of_lt_of_le (O.b r z y hy) (by decide)
    · rw [List.mem_singleton.mp z] at hy; exact R.b y hy
  have rk := O.rank R
  by_cases h0 : leadQ n (A.rs x) < n
  · have e : fd = .non := if_pos h0
    refine sdR_stop (sdR_ifT u (et_is t1 (decide_eq_true (by have := rk.mpr h0; omega))) (sdR_ret (edE_is (edE_ed (ed_isN (ed_fz 0 rfl))) fun d Om' hr => ?_)))
    obtain ⟨rfl, rfl⟩ := hr
    exact ⟨by show D.bl (isNon fd) = _; rw [e]; rfl, .inl rfl⟩
  · have e : fd = rowQ m (A.pt x) := if_neg h0
    have hz := leadQ_nil (n := n) (v := A.rs x) (Nat.le_antisymm (leadQ_le n _) (Nat.not_lt.mp h0))
    refine sdR_seq (sdN_skip u (et_is t1 (decide_eq_false (fun z => h0 (rk.mp (by omega)))))) fun Γ1 Om1 hr1 => ?_
    obtain ⟨rfl, rfl⟩ := hr1
    have ef : ∀ {Γ : Gam}, Γ[0]? = some (.fz fd) → Ed K (tVar 0) Γ (rowQ m (A.pt x)) := fun h => ed_fz 0 (by rw [← e]; exact h)
    refine sdR_seq (sdN_skip u (et_orF (et_nF (et_B (ed_cb (ea_cons (ef rfl) (ea_cons (ed_ty _) ea_nil)) (rc_isi rfl (by decide +kernel))))) (et_is (et_test (ed_op (ed_cb (ea_cons (ef rfl) ea_nil) rc_lenL) (ed_cb (ea_cons (gr rfl) ea_nil) rc_lenL) r2_neI)) (by rw [lr, List.length_map, List.length_range]; simp)))) fun Γ1 Om1 hr1 => ?_
    obtain ⟨rfl, rfl⟩ := hr1
    have fl : Ed K (tLc (iList K (tVar 0)) (gName 4) (tNot (tB (tCall (spR K Sli) [] E0 (tCons (tVar 4) (tCons (tVar 4) tNil))))) (tVar 4) [4]) Γv (.lst []) := ed_is (ed_lc (List.range m) (fun k => shq (A.pt x k)) (fun _ => false) (fun k => shq (A.pt x k)) (ei_list (ef rfl)) (by simp; omega) fun k hk => ⟨[4], _, eg_name 4, by simp, et_is (et_not (et_B (ed_call (ea_cons (ed_fz 4 rfl) (ea_cons (ed_fz 4 rfl) ea_nil)) ⟨_, _, rfl, rfl⟩))) (by simp), fun z => nomatch z⟩) (by rw [filter_none (fun _ _ => rfl)]; rfl)
    have sums : Ed K (tCall (spR K Slsq) [] E0 (tCons (tVar 0) (tCons (tDGet (tVar 3) (tC (.str "rows"))) (tCons (tCB (rLenA K) (tCons (tVar 2) tNil)) tNil)))) Γv (rowQ n x) := ed_is (ed_call (ea_cons (ef rfl) (ea_cons (gr rfl) (ea_cons (ed_is (ed_cb (ea_cons (ed_fz 2 rfl) ea_nil) rc_lenL) (by rw [List.length_map, List.length_range])) ea_nil))) ⟨n, m, A.pt x, A.T, rfl, n1, by omega, fun i hi => O.S.part_nb O.bts R.rwb (by omega) O.wide (Nat.le_refl m) i, fun i hi k hk => ?_, rfl⟩) ?_
    rotate_left
    · have z := O.bts
      exact (nb_div (p := rowF A.tops i k) (q := A.s i) (by have := O.whl.eq i hi k; grind) (z.t i hi k) (z.s i hi) (z.w.s0 i hi)).mono (by decide) (by decide)
    · refine rowQ_congr fun k hk => ?_
      have z := congrFun (O.S.sum x m (Nat.le_refl m)) k
      have z : x k = rest A.p A.l x m k + cb (part A.p A.l A.q x m) A.T m k := z
      have hz' : rest A.p A.l x m k = 0 := hz k hk
      rw [hz'] at z
      show cb (part A.p A.l A.q x m) A.T m k = x k
      rw [z]; grind
    refine sdR_seq (sdN_skip u (et_orF (et_is (et_test (ed_op fl (ed_lst ea_nil) (r2_ne (n := 1) (m := 1) (.lst fun d hd => nomatch hd) (.lst fun d hd => nomatch hd)))) (by rw [eqD_nil]; rfl)) (et_is (et_test (ed_op sums (ed_fz 2 rfl) (r2_ne (pl_row n x) (pl_row n x)))) (by rw [eqD_row]; rfl)))) fun Γ1 Om1 hr1 => ?_
    obtain ⟨rfl, rfl⟩ := hr1
    refine sdR_seq (sdN_app (a := a.c) (ed_dget (ed_fz 3 rfl) rfl) hs.c (ed_tup (ea_cons (ef rfl) (ea_cons (ed_cb (ea_cons (ef rfl) ea_nil) rc_listL) ea_nil))) (by omega)) fun Γ1 Om1 hr1 => ?_
    obtain ⟨rfl, rfl⟩ := hr1
    exact sdR_ret (edE_is (edE_ed (ed_bl true)) fun d Om' hr => by
      obtain ⟨rfl, rfl⟩ := hr
      exact ⟨rfl, .inr ⟨_, ⟨rowQ m (A.pt x), pl_row m _, rfl⟩, rfl⟩⟩)

/-! ### a deed -/
structure Mid (C : Addr) (Om : OmT) (n : Nat) (a : Adr) (A : Own) (cs : List D) (k : Nat) (Om1 : OmT) (A1 : Own) (cs1 : List D) : Prop where
  has : Has C Om1 n a A1 cs1
  ok : OwnOk n A1
  m1 : A1.tops.length ≤ A.tops.length + 1
  l1 : cs1.length ≤ cs.length + k
  pr : ∀ e ∈ cs1, e ∈ cs ∨ PairD e
  ks : Om1.map (·.1) = Om.map (·.1)
  ot : ∀ p ∈ Om, p.1 ≠ a.s → p.1 ≠ a.t → p.1 ≠ a.r → p.1 ≠ a.c → p ∈ Om1
section
variable {C : Addr} {Om Om1 Om2 : OmT} {n k : Nat} {a : Adr} {A A1 : Own} {cs cs1 : List D} {xs : List Int} {c : Int} {d : D}
theorem Mid.tg (M : Mid C Om n a A cs k Om1 A1 cs1) (ne : a.Ne) (h : TgPost ⟨Om1, n, a, A1, cs1, xs, c⟩ d Om2) : ∃ cs2, Mid C Om n a A cs (k + 1) Om2 A1 cs2 := by
  rcases h.2 with e | ⟨e, hp, q⟩
  · exact ⟨cs1, by rw [show Om2 = Om1 from e]; exact M.has, M.ok, M.m1, by have := M.l1; omega, M.pr, by rw [show Om2 = Om1 from e]; exact M.ks, by rw [show Om2 = Om1 from e]; exact M.ot⟩
  · have q : Om2 = omSet Om1 a.c (.lst (cs1 ++ [e])) := q
    subst q
    refine ⟨cs1 ++ [e], ⟨om_ne M.has.s ne.sc, om_ne M.has.t ne.tc, om_ne M.has.r ne.rc, om_self M.has.c⟩, M.ok, M.m1, by rw [List.length_append]; have := M.l1; show _ + 1 ≤ _; omega, fun y hy => ?_, by rw [omSet_keys]; exact M.ks, fun p hp h1 h2 h3 h4 => om_ne (M.ot p hp h1 h2 h3 h4) h4⟩
    rcases List.mem_append.mp hy with z | z
    · exact M.pr y z
    · rw [List.mem_singleton.mp z]; exact .inr hp
end
def BigM : Nat := 2 ^ 1048577
structure DeI where
  Om : OmT
  n : Nat
  a : Adr
  A : Own
  cs : List D
  cell : Int
def DePre (C : Addr) (i : DeI) (ds : List D) (Om : OmT) : Prop := Om = i.Om ∧ ds = [ownD i.n i.a, .int i.cell] ∧ Has C Om i.n i.a i.A i.cs ∧ OwnOk i.n i.A ∧ i.a.Ne ∧ (i.n ≤ 8 ∨ i.A.tops.length < 8) ∧ i.cs.length ≤ 900 ∧ i.cell.natAbs < BigM
def DePost (C : Addr) (i : DeI) (d : D) (Om' : OmT) : Prop := d = .bl true ∧ ∃ A1 cs1, Mid C i.Om i.n i.a i.A i.cs 2 Om' A1 cs1
theorem row_list {n : Nat} {xs : List Int} {c : Int} (hl : xs.length = n) : D.lst (xs.map fun (t : Int) => shq ((t : Rat) / (c : Rat))) = rowQ n (rowX xs c) := by
  refine congrArg D.lst (List.ext_getElem? fun k => ?_)
  rw [List.getElem?_map, List.getElem?_map]
  by_cases hk : k < n
  · rw [List.getElem?_eq_getElem (by omega), List.getElem?_range hk]
    show some (shq ((xs[k] : Rat) / (c : Rat))) = some (shq (rowX xs c k))
    unfold rowX at'
    rw [getD_at (by omega)]
  · rw [List.getElem?_eq_none (by omega), List.getElem?_eq_none (by simpa using hk)]
    rfl
def pairsQ (n : Nat) (v : Rw) : List (Int × Int) := (List.range n).map fun k => ((v k).num, ((v k).den : Int))
theorem pairsQ_sh (n : Nat) (v : Rw) : shL (pairsQ n v) = rowQ n v := by
  unfold shL pairsQ
  rw [List.map_map]
  rfl
theorem pl_ref : Pl 1 refD := .tup fun d hd => by
  rcases List.mem_cons.mp hd with h | h
  · subst h; exact .str (by decide +kernel)
  · rcases List.mem_cons.mp h with h | h
    · subst h; exact .str (by decide +kernel)
    · cases h
theorem topsD_put {n : Nat} {A : Own} {xs : List Int} {c : Int} : topsD (A.put n xs c) = topsD A ++ [intLr xs] := by
  unfold topsD Own.put
  rw [List.map_append]; rfl
theorem rowsD_put {n : Nat} {A : Own} {xs : List Int} {c : Int} (hs : A.scs.length = A.tops.length) : rowsD n (A.put n xs c) = rowsD n A ++ [rowQ n (rowX xs c)] := by
  unfold rowsD
  rw [put_T hs, show (A.put n xs c).tops.length = A.tops.length + 1 by simp [Own.put], range_succ_map, upd1_at]
  congr 1
  exact List.map_congr_left fun i hi => by rw [upd1_ne (by have := List.mem_range.mp hi; omega)]
theorem div9_lt {c : Int} {M : Nat} (h : c.natAbs < M) : (c / 9).natAbs < M := by omega
theorem ok_deed (T : Tx K mg a_WeighError a_Nought a_NoText a_NoRow a_NoMachine a_NoWord a_OtherSigns a_TooMany a_Span a_NONE a_WHOLE) (c__law_tops_by : Cl P w K mg base CX0 1 "_law_tops_by" (spN K Stb)) (c__law_share : Cl P w K mg base CX0 2 "_law_share" (spR K Sls)) (c__law_told : Cl P w K mg base CX0 7 "_law_told" (spN K (Stdq a_Span))) (c__law_wrong : Cl P w K mg base CX0 1 "_law_wrong" (spR K Swr)) (c__law_tells_good : Cl P w K mg base CX0 5 "_law_tells_good" (spM K (TgPre a_Span) TgPost)) (c__law_rank : Cl P w K mg base CX0 1 "_law_rank" (spR K Srk)) (c__law_whole : Cl P w K mg base CX0 1 "_law_whole" (spR K Swh))
    (c_put : Cm P w K mg base (L2.CX P w) 6 a_Span "put" (spU K a_Span Sptq (Tpdq a_Span a_NoRow))) (c_tells : Cm P w K mg base (L2.CX P w) 6 a_Span "tells" (spXN K (Stlq a_Span) (Tpdq a_Span a_NoRow))) (c_many : Cm P w K mg base CX0 1 a_Span "many" (spR K (Smyq a_Span))) : Cl P w K mg base CX0 8 "_law_deed" (spM K (DePre a_Span) (DePost a_Span)) := by
  refine clM T.d__law_deed sc_law_deed (fun i ds Om h => by obtain ⟨_, rfl, _⟩ := h; rfl) fun f cdv A outer s H E hr => ?_
  refine ⟨_, (pss_cons (ps_set (i := 2) sc_law_deed.nd rfl (by first | exact Or.inl rfl | exact Or.inr rfl) (pe_dget (units1 hr) (pv 0) pe_str (fun _ _ => rfl)))
  (pss_cons (ps_set (i := 3) sc_law_deed.nd rfl (by first | exact Or.inl rfl | exact Or.inr rfl) (pcl c__law_tops_by hr (by decide) rfl (pa_cons (pe_op opFd (pv 1) pe_int) (pa_cons (pv 2) (pa_cons (pe_dget (units1 hr) (pv 0) pe_str (fun _ _ => rfl)) pa_nil)))))
  (pss_cons (ps_set (i := 4) sc_law_deed.nd rfl (by first | exact Or.inl rfl | exact Or.inr rfl) (pe_op opAdd pe_int (pe_op op_mod (pe_op opFd (pv 1) pe_int) pe_int)))
  (pss_cons (ps_setLc (i := 5) rfl sc_law_deed.nd rfl rfl (sw_true rfl rfl rfl (by decide +kernel)) (own := [("_law_top", 11)]) (pi_list (pv 3)) (blkOk_by (by kernel_rfl)) (fun _ _ _ _ _ => (pg_name (i := 11) sc_law_deed.nd rfl (by first | exact Or.inl rfl | exact Or.inr rfl))) (fun _ _ _ _ _ => pts_nil) (fun _ _ _ _ _ => (pcl c__law_share hr (by decide) rfl (pa_cons (pv 11) (pa_cons (pv 4) pa_nil)))))
  (pss_cons (ps_set (i := 6) sc_law_deed.nd rfl (by first | exact Or.inl rfl | exact Or.inr rfl) (pe_dget (units1 hr) (pv 0) pe_str (fun _ _ => rfl)))
  (pss_cons (ps_if (PW.pt (pw_and (pt_cmpR (op_eqD hr.units) (pe_op op_mod (pv 1) pe_int) pe_int (nomark _)) (pw_and1 (pt_cmpR (op_neD hr.units) (pcl c__law_told hr (by decide) rfl (pa_cons (pv 6) (pa_cons (pe_op op_mod (pe_op opFd (pv 1) pe_int) pe_int) (pa_cons (pcl c__law_wrong hr (by decide) rfl (pa_cons (pe_op opFd (pv 1) pe_int) (pa_cons (pv 5) pa_nil))) pa_nil)))) (pe_tup (pa_cons pe_str (pa_cons pe_str pa_nil))) (nomark _)))))
  (pss_one (ps_ret pe_bl))
  pss_nil)
  (pss_cons (ps_set (i := 7) sc_law_deed.nd rfl (by first | exact Or.inl rfl | exact Or.inr rfl) (pe_callTy callList (by rfl) T.n_list bt_list (pa_cons (pv 5) pa_nil)))
  (pss_cons (ps_if (pt_cmpR (op_eqD hr.units) (pe_op op_mod (pv 1) pe_int) pe_int (nomark _))
  (pss_one (ps_if (pt_not (pt_val (pcl c__law_tells_good hr (by decide) rfl (pa_cons (pcl c__law_told hr (by decide) rfl (pa_cons (pv 6) (pa_cons pe_int (pa_cons (pv 7) pa_nil)))) (pa_cons (pv 3) (pa_cons (pv 5) (pa_cons (pv 0) pa_nil)))))))
  (pss_one (ps_ret pe_bl))
  pss_nil))
  (pss_cons (ps_set (i := 8) sc_law_deed.nd rfl (by first | exact Or.inl rfl | exact Or.inr rfl) (pe_cmpR op_gt (pcl c__law_rank hr (by decide) rfl (pa_cons (pe_op opAdd (pe_dget (units1 hr) (pv 0) pe_str (fun _ _ => rfl)) (pe_lst (pa_cons (pv 3) pa_nil))) pa_nil)) (pe_callB callLen (by rfl) T.n_len bt_len (pa_cons (pe_dget (units1 hr) (pv 0) pe_str (fun _ _ => rfl)) pa_nil)) (nomark _)))
  (pss_cons (ps_set (i := 9) sc_law_deed.nd rfl (by first | exact Or.inl rfl | exact Or.inr rfl) (pcmX c_put T.cl_Span hr (by decide) (pv 6) (pa_cons (pv 7) pa_nil)))
  (pss_cons (ps_if (PW.pt (pw_or (pt_not (pt_val (pe_callB call_isi (by rfl) T.n_isinstance bt_isinstance (pa_cons (pv 9) (pa_cons (pe_bltn (v := .ty "bool") (by rfl) T.n_bool bt_bool rfl) pa_nil))))) (pw_or1 (pt_cmpR (op_neD hr.units) (pv 9) (pv 8) (nomark _)))))
  (pss_one (ps_ret pe_bl))
  pss_nil)
  (pss_one (ps_if (pt_val (pv 8))
  (pss_cons (ps_expr (pe_bm PySem.F.plainAttrs_list PySem.F.slot_list_append PySem.F.type_list_append mt_append (pe_dget (units1 hr) (pv 0) pe_str (fun _ _ => rfl)) (pa_cons (pv 3) pa_nil)))
  (pss_one (ps_expr (pe_bm PySem.F.plainAttrs_list PySem.F.slot_list_append PySem.F.type_list_append mt_append (pe_dget (units1 hr) (pv 0) pe_str (fun _ _ => rfl)) (pa_cons (pv 5) pa_nil)))))
  pss_nil))))))
  (pss_cons (ps_if (pt_cmpR (op_neD hr.units) (pv 7) (pv 5) (nomark _))
  (pss_one (ps_ret pe_bl))
  pss_nil)
  (pss_cons (ps_expr (pe_bm0 PySem.F.plainAttrs_list PySem.F.slot_list_clear PySem.F.type_list_clear mt_clear (pv 7)))
  (pss_cons (ps_set (i := 10) sc_law_deed.nd rfl (by first | exact Or.inl rfl | exact Or.inr rfl) (pcm0 c_many T.cl_Span hr (by decide) (pv 6)))
  (pss_one (ps_ret (pe_and (pcl c__law_whole hr (by decide) rfl (pa_cons (pv 10) pa_nil)) (pe_and (pe_cmpR (op_eqD hr.units) (pv 10) (pe_callB callLen (by rfl) T.n_len bt_len (pa_cons (pe_dget (units1 hr) (pv 0) pe_str (fun _ _ => rfl)) pa_nil)) (nomark _)) (pe_one (pcl c__law_tells_good hr (by decide) rfl (pa_cons (pcmX c_tells T.cl_Span hr (by decide) (pv 6) (pa_cons (pe_callTy callList (by rfl) T.n_list bt_list (pa_cons (pv 5) pa_nil)) pa_nil)) (pa_cons (pv 3) (pa_cons (pv 5) (pa_cons (pv 0) pa_nil))))))))))))))))))))), fun i ds Om h => ?_⟩
  obtain ⟨rfl, rfl, hs, O, ne, h8, hc, hcell⟩ := h
  obtain ⟨Om, n, a, A, cs, cell⟩ := i
  simp only at hs O ne h8 hc hcell ⊢
  have n1 := O.n1
  have m8 := O.m8
  let m := A.tops.length
  let c9 : Int := cell / 9
  let xs : List Int := topsF c9 n A.tops
  let sc : Int := 1 + c9 % 13
  let x : Rw := rowX xs sc
  have lx : xs.length = n := topsF_len O.ln
  have sc1 : 1 ≤ sc ∧ sc ≤ 13 := by
    have h1 := Int.emod_nonneg c9 (show (13 : Int) ≠ 0 by decide)
    have h2 := Int.emod_lt_of_pos c9 (show (0 : Int) < 13 by decide)
    show 1 ≤ 1 + c9 % 13 ∧ 1 + c9 % 13 ≤ 13
    omega
  have R : RowOk n xs sc := ⟨lx, topsF_lt O.b, sc1⟩
  have c9b : c9.natAbs < BigM := div9_lt hcell
  have q9 : ∀ {Γ : Gam}, Γ[1]? = some (.fz (.int cell)) → Ed K (tOp rFdA (tVar 1) (tC (.int 9))) Γ (.int c9) := fun h => ed_op (ed_fz 1 h) (ed_int 9) (r2_fdP (by decide))
  let OD : D := ownD n a
  let G0 : Sl → Sl → Sl → Sl → Sl → Gam := fun s2 s3 s4 s5 s6 => [.fz OD, .fz (.int cell), s2, s3, s4, s5, s6, .no, .no, .no, .no, .no]
  have up0 : UpS Om (.fz OD) (.fz (ownV a_Span n A cs)) := .up hs.up
  refine sdR_pre (E := E0) (Γ1 := G0 (.fz (.int (n : Nat))) .no .no .no .no) (sd_set 2 (ed_dget (ed_fz 0 rfl) rfl)) ?_
  refine sdR_setv 3 (edE_view (d := intLr xs) (n := 1) (Γ' := [.fz (ownV a_Span n A cs), .fz (.int cell), .fz (.int (n : Nat)), .no, .no, .no, .no, .no, .no, .no, .no, .no]) (.cons up0 (UpG.refl _)) (edH_call (ea_cons (q9 rfl) (ea_cons (ed_fz 2 rfl) (ea_cons (ed_dget (ed_fz 0 rfl) rfl) ea_nil))) ⟨c9, n, A.tops, rfl, c9b, n1, by omega, O.ln, O.b, rfl⟩) (pl_intL xs)) ?_
  refine sdR_pre (E := E0) (Γ1 := G0 (.fz (.int (n : Nat))) (.fz (intLr xs)) (.fz (.int sc)) .no .no) (sd_set 4 (ed_op (ed_int 1) (ed_op (q9 rfl) (ed_int 13) (r2_mod (by decide))) r2_addI)) ?_
  refine sdR_pre (E := E0) (Γ1 := G0 (.fz (.int (n : Nat))) (.fz (intLr xs)) (.fz (.int sc)) (.fz (rowQ n x)) .no) (sd_set 5 (ed_is (ed_map xs D.int (fun (t : Int) => shq ((t : Rat) / (sc : Rat))) (ei_list (ed_fz 3 rfl)) (by omega) fun t ht => ⟨[11], _, eg_name 11, by simp, ed_is (ed_call (ea_cons (ed_fz 11 rfl) (ea_cons (ed_fz 4 rfl) ea_nil)) ⟨t, sc, rfl, by omega, Nat.lt_of_lt_of_le ((Nat.log2_lt (by omega)).mpr (show sc.natAbs < 2 ^ 4 by omega)) (by decide), rfl⟩) (shq_mk (by omega))⟩) (row_list lx))) ?_
  refine sdR_pre (E := E0) (Γ1 := G0 (.fz (.int (n : Nat))) (.fz (intLr xs)) (.fz (.int sc)) (.fz (rowQ n x)) (.fz (.adr a.s))) (sd_set 6 (ed_dget (ed_fz 0 rfl) rfl)) ?_
  -- the instance looked at
  have up6 : ∀ {Om : OmT} {A : Own} {cs : List D}, Has a_Span Om n a A cs → UpS Om (.fz (.adr a.s)) (.fz (.ins a_Span (spanO n A))) := fun h => .up (.adr h.s)
  let V0 : Gam := [.fz (ownV a_Span n A cs), .fz (.int cell), .fz (.int (n : Nat)), .fz (intLr xs), .fz (.int sc), .fz (rowQ n x), .fz (.ins a_Span (spanO n A)), .no, .no, .no, .no, .no]
  have u0 : UpG Om (G0 (.fz (.int (n : Nat))) (.fz (intLr xs)) (.fz (.int sc)) (.fz (rowQ n x)) (.fz (.adr a.s))) V0 := .cons up0 (.cons (.same _) (.cons (.same _) (.cons (.same _) (.cons (.same _) (.cons (.same _) (.cons (up6 hs) (UpG.refl _)))))))
  have bad := wrong_ok (cell / 18) (r := pairsQ n x) (by simp [pairsQ]; omega)
  have told1 : Ed K (tCall (spN K (Stdq a_Span)) [] E0 (tCons (tVar 6) (tCons (tOp (rI (fun _ j => 0 < j) fun i j => .int (i % j)) (tOp rFdA (tVar 1) (tC (.int 9))) (tC (.int 2))) (tCons (tCall (spR K Swr) [] E0 (tCons (tOp rFdA (tVar 1) (tC (.int 18))) (tCons (tVar 5) tNil))) tNil)))) V0 refD := (edH_call (ea_cons (ed_fz 6 rfl) (ea_cons (ed_op (q9 rfl) (ed_int 2) (r2_mod (by decide))) (ea_cons (ed_call (ea_cons (ed_op (ed_fz 1 rfl) (ed_int 18) (r2_fdP (by decide))) (ea_cons (ed_fz 5 rfl) ea_nil)) ⟨cell / 18, pairsQ n x, by rw [pairsQ_sh], by simp [pairsQ]; omega, rfl⟩) ea_nil))) ⟨n, A, _, _, rfl, .inr ⟨bad.1, by rw [← bad.2]; simp [pairsQ], rfl⟩⟩).ed
  have t6 : Et K (tAnd (tTest (tOp (rEqD K) (tOp (rI (fun _ j => 0 < j) fun i j => .int (i % j)) (tVar 1) (tC (.int 9))) (tC (.int 8)))) (tTest (tOp (rNeD K) (tCall (spN K (Stdq a_Span)) [] E0 (tCons (tVar 6) (tCons (tOp (rI (fun _ j => 0 < j) fun i j => .int (i % j)) (tOp rFdA (tVar 1) (tC (.int 9))) (tC (.int 2))) (tCons (tCall (spR K Swr) [] E0 (tCons (tOp rFdA (tVar 1) (tC (.int 18))) (tCons (tVar 5) tNil))) tNil)))) (tTup (tCons (tC (.str "refused")) (tCons (tC (.str "row")) tNil)))))) V0 false := et_is (et_and (et_test (ed_op (ed_op (ed_fz 1 rfl) (ed_int 9) (r2_mod (by decide))) (ed_int 8) r2_eqI)) fun _ => et_is (b := !eqD refD refD) (et_test (ed_op told1 (ed_tup (ea_cons (ed_str _) (ea_cons (ed_str _) ea_nil))) (r2_ne pl_ref pl_ref))) (by rw [eqD_refl pl_ref]; rfl)) (Bool.and_false _)
  refine sdR_skip u0 t6 ?_
  let hd : List D := (List.range n).map fun k => shq (x k)
  let G : Sl → Sl → Sl → Sl → Gam := fun s7 s8 s9 s10 => [.fz OD, .fz (.int cell), .fz (.int (n : Nat)), .fz (intLr xs), .fz (.int sc), .fz (rowQ n x), .fz (.adr a.s), s7, s8, s9, s10, .no]
  let V : Own → List D → Sl → Sl → Sl → Sl → Gam := fun A cs s7 s8 s9 s10 => [.fz (ownV a_Span n A cs), .fz (.int cell), .fz (.int (n : Nat)), .fz (intLr xs), .fz (.int sc), .fz (rowQ n x), .fz (.ins a_Span (spanO n A)), s7, s8, s9, s10, .no]
  have uv : ∀ {Om : OmT} {A : Own} {cs : List D} {s7 t7 s8 s9 s10 : Sl}, Has a_Span Om n a A cs → UpS Om s7 t7 → UpG Om (G s7 s8 s9 s10) (V A cs t7 s8 s9 s10) := fun h u7 => .cons (.up h.up) (.cons (.same _) (.cons (.same _) (.cons (.same _) (.cons (.same _) (.cons (.same _) (.cons (up6 h) (.cons u7 (UpG.refl _))))))))
  refine sdR_pre (E := E0) (Γ1 := G (.ow hd) .no .no .no) (sd_setW 7 (ew_listL (ed_fz 5 rfl))) ?_
  have M0 : Mid a_Span Om n a A cs 0 Om A cs := ⟨hs, O, Nat.le_succ _, Nat.le_refl _, fun e h => .inl h, rfl, fun p h _ _ _ _ => h⟩
  refine sdR_seq (RN := fun Γ1 Om1 => (∃ s8 s9, Γ1 = G (.ow hd) s8 s9 .no) ∧ ∃ A1 cs1, Mid a_Span Om n a A cs 1 Om1 A1 cs1) (sdN_if (UpG.refl _) (et_test (ed_op (ed_op (ed_fz 1 rfl) (ed_int 3) (r2_mod (by decide))) (ed_int 0) r2_eqI)) (fun _ => ?_) fun _ => ?_) fun Γ1 Om1 hr1 => ?_
  · refine sdN_ifN (edE_is (edE_call (Pre := TgPre a_Span) (Post := TgPost) (edE_view (uv hs (.fz (.lst hd))) (edH_call (ea_cons (ed_fz 6 rfl) (ea_cons (ed_int 1) (ea_cons (ed_fz 7 rfl) ea_nil))) ⟨n, A, 1, _, rfl, .inl ⟨xs, sc, O, R, rfl, rfl, rfl⟩⟩) (pl_tells n A x)) (ea_cons (ed_fz 3 rfl) (ea_cons (ed_fz 5 rfl) (ea_cons (ed_fz 0 rfl) ea_nil))) ⟨Om, n, a, A, cs, xs, sc⟩ ⟨rfl, rfl, hs, O, R, by show cs.length ≤ 1000; omega⟩ fun d Om' h => tg_keys h) fun d Om' h => ⟨h.1, ⟨.no, .no, rfl⟩, ?_⟩)
    obtain ⟨cs2, M⟩ := M0.tg ne h
    exact ⟨A, cs2, M⟩
  · -- put
    let due : Bool := decide (leadQ n (A.rs x) < n)
    let A1 : Own := if leadQ n (A.rs x) < n then A.put n xs sc else A
    have rk := O.rank R
    have lt : (topsD A).length = m := by simp [topsD, m]
    have lr : (rowsD n A).length = m := by simp [rowsD, m]
    have dueE : Ed K (tOp (rI0 fun i j => .bl (decide (j < i))) (tCall (spR K Srk) [] E0 (tCons (tOp rAddA (tDGet (tVar 0) (tC (.str "tops"))) (tLst (tCons (tVar 3) tNil))) tNil)) (tCB (rLenA K) (tCons (tDGet (tVar 0) (tC (.str "tops"))) tNil))) (V A cs (.ow hd) .no .no .no) (.bl due) := ed_is (ed_op (ed_call (ea_cons (ed_is (ed_op (ed_dget (ed_fz 0 rfl) rfl) (ed_lst (ea_cons (ed_fz 3 rfl) ea_nil)) (r2_addL (by rw [lt]; show m + 1 ≤ _; omega))) (show _ = D.lst ((A.tops ++ [xs]).map intLr) by rw [List.map_append]; rfl)) ea_nil) ⟨n, A.tops ++ [xs], rfl, by simp, fun r hr => ?_, n1, by simp; omega, fun r hr k => ?_, rfl⟩) (ed_is (ed_cb (ea_cons (ed_dget (ed_fz 0 rfl) rfl) ea_nil) rc_lenL) (show _ = D.int ((m : Nat) : Int) by rw [lt])) r2_gt) (congrArg D.bl (decide_eq_decide.mpr ⟨fun z => rk.mp (by omega), fun z => by have := rk.mpr z; omega⟩))
    rotate_left
    · rcases List.mem_append.mp hr with z | z
      · exact O.ln r z
      · rw [List.mem_singleton.mp z]; exact R.ln
    · refine Nat.lt_of_lt_of_le (at_b (w := 21) (fun y hy => ?_) k) (by decide)
      rcases List.mem_append.mp hr with z | z
      · exact Nat.lt_of_lt_of_le (O.b r z y hy) (by decide)
      · rw [List.mem_singleton.mp z] at hy; exact R.b y hy
    refine sdN_setv 8 (edE_view (n := 0) (uv hs (.same _)) (edH_lf dueE (lf_bl _)) (.bl _)) ?_
    have sc0 : (sc : Rat) ≠ 0 := R.c0
    have nx : Nxt n A.tops.length A.p A.l A.q x (.bl due) (spanO n A1) := by
      refine ⟨fun z => ?_, fun z => ?_⟩
      · have z' : ¬ leadQ n (A.rs x) < n := by show ¬ leadQ n (rest A.p A.l x A.tops.length) < n; omega
        exact ⟨congrArg D.bl (decide_eq_false z'), by show spanO n (if leadQ n (A.rs x) < n then A.put n xs sc else A) = _; rw [if_neg z']; rfl⟩
      · have z' : leadQ n (A.rs x) < n := z
        refine ⟨congrArg D.bl (decide_eq_true z'), ?_⟩
        show spanO n (if leadQ n (A.rs x) < n then A.put n xs sc else A) = _
        rw [if_pos z']
        unfold spanO
        rw [show (A.put n xs sc).tops.length = A.tops.length + 1 by simp [Own.put]]
        rfl
    refine sdN_setv 9 (edE_put (S := Sptq) (T := Tpdq a_Span a_NoRow) (d := .bl due) (gs' := spanO n A1) (ds := hd) rfl hs.s rfl rfl ⟨n, A.tops.length, A.p, A.l, A.q, x, 300, rfl, rfl, O.ask R, fun j hj => O.S.up j hj _ hj, nx⟩) ?_
    show SdN K _ (G (.ow hd) (.fz (.bl due)) (.fz (.bl due)) .no) _ _
    refine sdN_skipS (UpG.refl _) (et_orF (et_nF (et_B (ed_cb (ea_cons (ed_fz 9 rfl) (ea_cons (ed_ty _) ea_nil)) (rc_isi rfl (by decide +kernel))))) (et_is (et_test (ed_op (ed_fz 9 rfl) (ed_fz 8 rfl) (r2_ne (n := 0) (m := 0) (.bl _) (.bl _)))) (by rw [eqD_refl (n := 0) (.bl due)]; rfl))) ?_
    have hs1t : (a.t, Ow.lst (topsD A)) ∈ omSet Om a.s (.ins none a_Span (spanO n A1)) := om_ne hs.t (fun z => ne.st z.symm)
    have hs1r : (a.r, Ow.lst (rowsD n A)) ∈ omSet Om a.s (.ins none a_Span (spanO n A1)) := om_ne hs.r (fun z => ne.sr z.symm)
    have hs1c : (a.c, Ow.lst cs) ∈ omSet Om a.s (.ins none a_Span (spanO n A1)) := om_ne hs.c (fun z => ne.sc z.symm)
    have hs1s : (a.s, Ow.ins none a_Span (spanO n A1)) ∈ omSet Om a.s (.ins none a_Span (spanO n A1)) := om_self hs.s
    refine sdN_if (b := due) (UpG.refl _) (et_B (ed_fz 8 rfl)) (fun hd1 => ?_) fun hd0 => ?_
    · have hlt : leadQ n (A.rs x) < n := of_decide_eq_true hd1
      have eA : A1 = A.put n xs sc := if_pos hlt
      refine sdN_appv (a := a.t) (d := intLr xs) (ed_dget (ed_fz 0 rfl) rfl) hs1t (ed_fz 3 rfl) (by rw [lt]; omega) ?_
      refine sdN_is (sdN_app (a := a.r) (d := rowQ n x) (ed_dget (ed_fz 0 rfl) rfl) (om_ne hs1r (fun z => ne.tr z.symm)) (ed_fz 5 rfl) (by rw [lr]; omega)) fun Γ2 Om2 hr2 => ?_
      obtain ⟨rfl, rfl⟩ := hr2
      refine ⟨⟨_, _, rfl⟩, A1, cs, ⟨om_ne (om_ne hs1s ne.st) ne.sr, ?_, ?_, om_ne (om_ne hs1c (fun z => ne.tc z.symm)) (fun z => ne.rc z.symm)⟩, ?_, ?_, by omega, fun e h => .inl h, by rw [omSet_keys, omSet_keys, omSet_keys], fun p hp h1 h2 h3 _ => om_ne (om_ne (om_ne hp h1) h2) h3⟩
      · have e2 : topsD A1 = topsD A ++ [intLr xs] := by rw [eA, topsD_put]
        rw [e2]
        exact om_ne (om_self hs1t) ne.tr
      · have e2 : rowsD n A1 = rowsD n A ++ [rowQ n x] := by rw [eA, rowsD_put O.sl]
        rw [e2]
        exact om_self (om_ne hs1r (fun z => ne.tr z.symm))
      · rw [eA]
        exact O.put R hlt (O.drawn sc0 hlt) h8
      · rw [eA]
        simp [Own.put]
    · have hnl : ¬ leadQ n (A.rs x) < n := of_decide_eq_false hd0
      have eA : A1 = A := if_neg hnl
      exact sdN_next ⟨⟨_, _, rfl⟩, A, cs, ⟨by rw [← eA]; rw [eA]; rw [eA] at hs1s; exact hs1s, hs1t, hs1r, hs1c⟩, O, by omega, by omega, fun e h => .inl h, by rw [omSet_keys], fun p hp h1 _ _ _ => om_ne hp h1⟩
  obtain ⟨⟨s8, s9, rfl⟩, A1, cs1, M⟩ := hr1
  have hs1 := M.has
  refine sdR_skip (uv hs1 (.fz (.lst hd))) (et_is (b := !eqD (rowQ n x) (rowQ n x)) (et_test (ed_op (ed_fz 7 rfl) (ed_fz 5 rfl) (r2_ne (pl_row n x) (pl_row n x)))) (by rw [eqD_row]; rfl)) ?_
  refine sdR_pre (E := E0) (Γ1 := G (.ow []) s8 s9 .no) (sd_clear 7 rfl) ?_
  refine sdR_setv 10 (edE_view (n := 0) (d := .int (A1.tops.length : Nat)) (uv hs1 (.same _)) (edH_lf (ed_meth (S := Smyq a_Span) (ed_fz 6 rfl) rfl ea_nil ⟨n, A1.tops.length, A1.p, A1.l, A1.q, rfl, rfl⟩) (lf_int _)) (.int _)) ?_
  show SdR K _ (G (.ow []) s8 s9 (.fz (.int (A1.tops.length : Nat)))) _ _
  have lr1 : (rowsD n A1).length = A1.tops.length := by simp [rowsD]
  refine sdR_ret (edE_andT (edE_is (edE_ed (d := .bl true) (ed_call (ea_cons (ed_fz 10 rfl) ea_nil) ⟨_, _, rfl, rfl, rfl⟩)) fun d Om' h => h) (edE_andT (edE_view (n := 0) (uv hs1 (.same _)) (edH_lf (ed_is (ed_op (ed_fz 10 rfl) (ed_cb (ea_cons (ed_dget (ed_fz 0 rfl) rfl) ea_nil) rc_lenL) r2_eqI) (by rw [lr1]; simp)) (lf_bl true)) (.bl true)) ?_))
  refine edE_is (edE_call (Pre := TgPre a_Span) (Post := TgPost) (edE_view (d := tellsD n A1 x) (uv hs1 (.same _)) (edH_meth (S := Stlq a_Span) (ed_fz 6 rfl) rfl (ea_cons (ed_cb (ea_cons (ed_fz 5 rfl) ea_nil) rc_listL) ea_nil) ⟨n, A1.tops.length, A1.p, A1.l, A1.q, x, 300, rfl, M.ok.ask R, rfl⟩) (pl_tells n A1 x)) (ea_cons (ed_fz 3 rfl) (ea_cons (ed_fz 5 rfl) (ea_cons (ed_fz 0 rfl) ea_nil))) ⟨_, n, a, A1, cs1, xs, sc⟩ ⟨rfl, rfl, hs1, M.ok, R, by have := M.l1; show cs1.length ≤ 1000; omega⟩ fun d Om' h => tg_keys h) fun d Om' h => ⟨h.1, ?_⟩
  obtain ⟨cs2, M2⟩ := M.tg ne h
  exact ⟨A1, cs2, M2⟩

/-! ### the law -/

theorem big_cell {z : Int} (h : Builtin.Int.intBits z ≤ 1048576) : z.natAbs < BigM := by
  have s := sm_bits h
  unfold Sm at s
  unfold BigM
  by_cases h0 : z.natAbs = 0
  · rw [h0]; exact Nat.pow_pos (by decide)
  · exact (Nat.log2_lt h0).mp (Nat.lt_succ_of_le s)
def own0 : Own := ⟨[], [], fun _ => 0, fun _ _ => 0, fun _ _ => 0⟩
def omOf (C : Addr) (n : Nat) (as : List Adr) : OmT := as.flatMap fun a => [(a.s, .ins none C (spanO n own0)), (a.t, .lst []), (a.r, .lst [])]
structure Two4 (C : Addr) (Om : OmT) (n : Nat) (a0 a1 : Adr) (i : Nat) : Prop where
  ex : ∃ A0 A1 cs, Has C Om n a0 A0 cs ∧ Has C Om n a1 A1 cs ∧ OwnOk n A0 ∧ OwnOk n A1 ∧ A0.tops.length ≤ i ∧ A1.tops.length ≤ i ∧ cs.length ≤ 2 * i ∧ ∀ e ∈ cs, PairD e
  ks : Om.map (·.1) = [a0.c, a0.s, a0.t, a0.r, a1.s, a1.t, a1.r]
  ec : a1.c = a0.c
theorem Two4.step {C : Addr} {Om Om1 : OmT} {n i : Nat} {a0 a1 : Adr} {A0 A1 A0' : Own} {cs cs' : List D} (nd : (Om.map (·.1)).Nodup) (ks : Om.map (·.1) = [a0.c, a0.s, a0.t, a0.r, a1.s, a1.t, a1.r]) (ec : a1.c = a0.c) (h1 : Has C Om n a1 A1 cs) (O1 : OwnOk n A1) (m0 : A0.tops.length ≤ i) (m1 : A1.tops.length ≤ i) (l : cs.length ≤ 2 * i) (pr : ∀ e ∈ cs, PairD e) (M : Mid C Om n a0 A0 cs 2 Om1 A0' cs') : Two4 C Om1 n a0 a1 (i + 1) := by
  rw [ks] at nd
  simp only [List.nodup_cons, List.mem_cons, List.not_mem_nil, or_false, not_or, List.nodup_nil, and_true, not_false_eq_true] at nd
  obtain ⟨⟨c1, c2, c3, c4, c5, c6⟩, ⟨s1, s2, s3, s4, s5⟩, ⟨t1, t2, t3, t4⟩, ⟨r1, r2, r3⟩, _⟩ := nd
  refine ⟨⟨A0', A1, cs', M.has, ⟨M.ot _ h1.s (fun e => s3 e.symm) (fun e => t2 e.symm) (fun e => r1 e.symm) (fun e => c4 e.symm), M.ot _ h1.t (fun e => s4 e.symm) (fun e => t3 e.symm) (fun e => r2 e.symm) (fun e => c5 e.symm), M.ot _ h1.r (fun e => s5 e.symm) (fun e => t4 e.symm) (fun e => r3 e.symm) (fun e => c6 e.symm), by rw [ec]; exact M.has.c⟩, M.ok, O1, by have := M.m1; omega, by omega, by have := M.l1; omega, fun e he => (M.pr e he).elim (pr e) id⟩, M.ks.trans ks, ec⟩
theorem Two4.swap {C : Addr} {Om Om1 : OmT} {n i : Nat} {a0 a1 : Adr} {A0 A1 A1' : Own} {cs cs' : List D} (nd : (Om.map (·.1)).Nodup) (ks : Om.map (·.1) = [a0.c, a0.s, a0.t, a0.r, a1.s, a1.t, a1.r]) (ec : a1.c = a0.c) (h0 : Has C Om n a0 A0 cs) (O0 : OwnOk n A0) (m0 : A0.tops.length ≤ i) (m1 : A1.tops.length ≤ i) (l : cs.length ≤ 2 * i) (pr : ∀ e ∈ cs, PairD e) (M : Mid C Om n a1 A1 cs 2 Om1 A1' cs') : Two4 C Om1 n a0 a1 (i + 1) := by
  rw [ks] at nd
  simp only [List.nodup_cons, List.mem_cons, List.not_mem_nil, or_false, not_or, List.nodup_nil, and_true, not_false_eq_true] at nd
  obtain ⟨⟨c1, c2, c3, c4, c5, c6⟩, ⟨s1, s2, s3, s4, s5⟩, ⟨t1, t2, t3, t4⟩, ⟨r1, r2, r3⟩, _⟩ := nd
  refine ⟨⟨A0, A1', cs', ⟨M.ot _ h0.s s3 s4 s5 (fun e => c1 (by rw [ec] at e; exact e.symm)), M.ot _ h0.t t2 t3 t4 (fun e => c2 (by rw [ec] at e; exact e.symm)), M.ot _ h0.r r1 r2 r3 (fun e => c3 (by rw [ec] at e; exact e.symm)), by rw [← ec]; exact M.has.c⟩, M.has, O0, M.ok, by omega, by have := M.m1; omega, by have := M.l1; omega, fun e he => (M.pr e he).elim (pr e) id⟩, M.ks.trans ks, ec⟩
theorem Two4.ne {Om : OmT} {a0 a1 : Adr} (nd : (Om.map (·.1)).Nodup) (ks : Om.map (·.1) = [a0.c, a0.s, a0.t, a0.r, a1.s, a1.t, a1.r]) (ec : a1.c = a0.c) : a0.Ne ∧ a1.Ne := by
  rw [ks] at nd
  simp only [List.nodup_cons, List.mem_cons, List.not_mem_nil, or_false, not_or, List.nodup_nil, and_true, not_false_eq_true] at nd
  obtain ⟨⟨c1, c2, c3, c4, c5, c6⟩, ⟨s1, s2, s3, s4, s5⟩, ⟨t1, t2, t3, t4⟩, ⟨r1, r2, r3⟩, ⟨u1, u2⟩, v1⟩ := nd
  exact ⟨⟨s1, s2, fun e => c1 e.symm, t1, fun e => c2 e.symm, fun e => c3 e.symm⟩, ⟨u1, u2, fun e => c4 (by rw [ec] at e; exact e.symm), v1, fun e => c5 (by rw [ec] at e; exact e.symm), fun e => c6 (by rw [ec] at e; exact e.symm)⟩⟩
theorem ok_law {f : Addr} {fd : FuncData} (T : Tx K mg a_WeighError a_Nought a_NoText a_NoRow a_NoMachine a_NoWord a_OtherSigns a_TooMany a_Span a_NONE a_WHOLE) (F : Fun K "law" "law" s_law f fd) : FnOk P w K mg base CX0 20 f fd ["_law_script"] (spLaw K) := by
  have c_divisor := ok_divisor (P := P) (w := w) (base := base) T
  have c_is_whole := ok_is_whole (P := P) (w := w) (base := base) T
  have c_is_share := ok_is_share T c_is_whole c_divisor
  have c_share := ok_share (P := P) (w := w) (base := base) T c_divisor
  have c_plus := ok_plusq T c_share
  have c_less := ok_lessq T c_share
  have c_times := ok_timesq T c_share
  have c_over := ok_overq T c_share
  have c_is_row := ok_is_rowG T c_is_share
  have c_lead_of := ok_lead_q (P := P) (w := w) (base := base) T
  have c_moved := ok_moved T c_less c_times
  have c_parted := ok_parted T c_is_row c_moved c_plus c_times
  have c_tells := ok_tells T c_parted c_lead_of
  have c_put := ok_put T c_parted c_lead_of c_over c_less
  have c_many := ok_many (P := P) (w := w) (base := base) T
  have c_Span := ok_Span (P := P) (w := w) (base := base) T
  have c__law_cell_at := ok_cell_at (P := P) (w := w) (base := base) T
  have c__law_common := ok_common (P := P) (w := w) (base := base) T
  have c__law_share := ok_lshare T c__law_common
  have c__law_plus := ok_lplusq T c__law_share
  have c__law_times := ok_ltimesq T c__law_share
  have c__law_whole := ok__law_whole (P := P) (w := w) (base := base) T
  have c__law_is := ok_lis T c__law_whole
  have c__law_rank := ok_rank (P := P) (w := w) (base := base) T
  have c__law_sums := ok_lsums T c__law_plus c__law_times
  have c__law_tops_by := ok_tops_by (P := P) (w := w) (base := base) T
  have c__law_wrong := ok_wrong (P := P) (w := w) (base := base) T
  have c__law_told := ok_told T c_put c_tells
  have c__law_tells_good := ok_tells_good T c__law_rank c__law_is c__law_sums
  have c__law_deed := ok_deed T c__law_tops_by c__law_share c__law_told c__law_wrong c__law_tells_good c__law_rank c__law_whole c_put c_tells c_many
  refine fnLawM F sc_law rfl fun cdv A outer s H E hr => ?_
  refine ⟨_, (pss_cons (ps_set (i := 1) sc_law.nd rfl (by first | exact Or.inl rfl | exact Or.inr rfl) (pe_op op_mod (pcl c__law_cell_at hr (by decide) rfl (pa_cons (pv 0) (pa_cons pe_int pa_nil))) pe_int))
  (pss_cons (ps_if (pt_cmpR (op_eqD hr.units) (pe_op op_mod (pe_op opFd (pcl c__law_cell_at hr (by decide) rfl (pa_cons (pv 0) (pa_cons pe_int pa_nil))) pe_int) pe_int) pe_int (nomark _))
  (pss_one (ps_set (i := 1) sc_law.nd rfl (by first | exact Or.inl rfl | exact Or.inr rfl) (pe_op opAdd pe_int (pe_op op_mod (pe_op opFd (pcl c__law_cell_at hr (by decide) rfl (pa_cons (pv 0) (pa_cons pe_int pa_nil))) pe_int) pe_int))))
  pss_nil)
  (pss_cons (ps_set (i := 2) sc_law.nd rfl (by first | exact Or.inl rfl | exact Or.inr rfl) (pe_lst pa_nil))
  (pss_cons (ps_set (i := 3) sc_law.nd rfl (by first | exact Or.inl rfl | exact Or.inr rfl) (pe_lst pa_nil))
  (pss_cons (ps_for PassesOwn.never rfl (pi_range1 rfl T.n_range (pa_cons pe_int pa_nil)) (pg_name (i := 4) sc_law.nd rfl (by first | exact Or.inl rfl | exact Or.inr rfl))
  (pss_one (ps_expr (pe_bm PySem.F.plainAttrs_list PySem.F.slot_list_append PySem.F.type_list_append mt_append (pv 3) (pa_cons (pe_disp (pps_cons pe_str (pv 1) (pps_cons pe_str (pci c_Span hr (by decide) rfl (pa_cons (pv 1) pa_nil)) (pps_cons pe_str (pe_lst pa_nil) (pps_cons pe_str (pe_lst pa_nil) (pps_cons pe_str (pv 2) pps_nil))))) rfl rfl (by intro z; cases z) (by decide)) pa_nil)))))
  (pss_cons (ps_for PassesOwn.never rfl (pi_list (pe_slice slA (pv 0) (po_some pe_int) (po_some (pe_ix ix_seq (pe_lst (pa_cons pe_int (pa_cons pe_int pa_nil))) (pe_callTy callInt (by rfl) T.n_int bt_int (pa_cons (pe_cmpR op_gt (pv 1) pe_int (nomark _)) pa_nil)) (fun _ _ => rfl))))) (pg_name (i := 5) sc_law.nd rfl (by first | exact Or.inl rfl | exact Or.inr rfl))
  (pss_one (ps_if (pt_not (pt_val (pcl c__law_deed hr (by decide) rfl (pa_cons (pe_ix ix_seq (pv 3) (pe_op opFd (pe_op op_mod (pe_op opFd (pv 5) pe_int) pe_int) pe_int) (fun _ _ => rfl)) (pa_cons (pv 5) pa_nil)))))
  (pss_one (ps_ret pe_bl))
  pss_nil)))
  (pss_one (ps_ret (pe_cmpR (op_eqD hr.units) (pe_lc rfl sc_law.nd (own := [("_law_pair", 6)]) (pi_list (pv 2)) (blkOk_by (by kernel_rfl)) (fun _ _ _ _ _ => (pg_name (i := 6) sc_law.nd rfl (by first | exact Or.inl rfl | exact Or.inr rfl))) (fun _ _ _ _ _ => (pts_one (pt_cmpR (op_neDK (K := K) rfl hr.units) (pe_ix (ix_seqK (K := K) rfl) (pv 6) pe_int (fun _ _ => rfl)) (pe_ix (ix_seqK (K := K) rfl) (pv 6) pe_int (fun _ _ => rfl)) (nomark _)))) (fun _ _ _ _ _ => (pv 6))) (pe_lst pa_nil) (nomark _)))))))))), fun ns hl hb => ?_⟩
  let c0 : Int := cellAt ns 0
  have cell0 : ∀ {Γ : Gam}, Γ[0]? = some (.fz (.scr ns)) → Ed K (tCall (spR K Sca) [] E0 (tCons (tVar 0) (tCons (tC (.int 0)) tNil))) Γ (.int c0) := fun {Γ} h => ed_call (ea_cons (ed_fz 0 h) (ea_cons (ed_int 0) ea_nil)) ⟨ns, 0, rfl, rfl⟩
  let n0 : Nat := (c0 % 5).toNat
  have e0 : c0 % 5 = (n0 : Int) := by show _ = ((c0 % 5).toNat : Int); omega
  let n1 : Nat := (5 + c0 / 40 % 20).toNat
  have e1 : 5 + c0 / 40 % 20 = (n1 : Int) := by show _ = ((5 + c0 / 40 % 20).toNat : Int); omega
  let n : Nat := if c0 / 5 % 8 = 1 then n1 else n0
  have q0 : n0 ≤ 24 := by show (c0 % 5).toNat ≤ 24; omega
  have q1 : n1 ≤ 24 := by show (5 + c0 / 40 % 20).toNat ≤ 24; omega
  have hn : n ≤ 24 := by
    show (if c0 / 5 % 8 = 1 then n1 else n0) ≤ 24
    split
    · exact q1
    · exact q0
  let G : Sl → Sl → Sl → Sl → Sl → Gam := fun s2 s3 s4 s5 s6 => [.fz (.scr ns), .fz (.int (n : Nat)), s2, s3, s4, s5, s6]
  refine sdL_pre (E := E0) (Γ1 := [.fz (.scr ns), .fz (.int (n0 : Nat)), .no, .no, .no, .no, .no]) (sd_set 1 (ed_is (ed_op (cell0 rfl) (ed_int 5) (r2_mod (by decide))) (congrArg D.int e0))) ?_
  refine sdL_pre (E := E0) (Γ1 := G .no .no .no .no .no) (sd_if (et_test (ed_op (ed_op (ed_op (cell0 rfl) (ed_int 5) (r2_fdP (by decide))) (ed_int 8) (r2_mod (by decide))) (ed_int 1) r2_eqI)) (fun h => ?_) fun h => ?_) ?_
  · have e : n = n1 := if_pos (of_decide_eq_true h)
    show Sd K E0 _ _ (.nx [.fz (.scr ns), .fz (.int (n : Nat)), .no, .no, .no, .no, .no])
    rw [e]
    exact sd_set 1 (ed_is (ed_op (ed_int 5) (ed_op (ed_op (cell0 rfl) (ed_int 40) (r2_fdP (by decide))) (ed_int 20) (r2_mod (by decide))) r2_addI) (congrArg D.int e1))
  · have e : n = n0 := if_neg (of_decide_eq_false h)
    show Sd K E0 _ _ (.nx [.fz (.scr ns), .fz (.int (n : Nat)), .no, .no, .no, .no, .no])
    rw [e]
    exact sd_next
  refine sdL_pre (E := E0) (Γ1 := G (.ow []) .no .no .no .no) (sd_setW 2 (ew_lst ea_nil)) ?_
  refine sdL_own 2 rfl fun c _ => ?_
  show SdL K _ (G (.fz (.adr c)) .no .no .no .no) [(c, .lst [])]
  refine sdL_pre (E := E0) (Γ1 := G (.fz (.adr c)) (.ow []) .no .no .no) (sd_setW 3 (ew_lst ea_nil)) ?_
  refine sdL_rng (n := 2) (fun i Γ1 Om1 => ∃ (as : List Adr) (s4 : Sl), (∀ o, s4 ≠ .own o) ∧ as.length = i ∧ (∀ a ∈ as, a.c = c) ∧ Γ1 = G (.fz (.adr c)) (.ow (as.map (ownD n))) s4 .no .no ∧ Om1 = (c, .lst []) :: omOf a_Span n as) (ea_cons (ed_int 2) ea_nil) (by decide) ⟨[], .no, (fun o h => nomatch h), rfl, (fun a h => nomatch h), rfl, rfl⟩ (fun i Γ1 Om1 hi hst => ?_) fun Γ1 Om1 hst => ?_
  · obtain ⟨as, s4, hs4, la, ca, rfl, rfl⟩ := hst
    refine ⟨[4], _, eg_name 4, sdN_is (sdN_appE (ds := as.map (ownD n)) 3 rfl (edE_disp (S := Sspi) (gs := spanO n own0) (ed_fz 1 rfl) (ea_cons (ed_fz 1 rfl) ea_nil) ⟨n, rfl, rfl⟩ rfl) (by rw [List.length_map]; omega)) fun Γ2 Om2 h => ?_⟩
    obtain ⟨d, ⟨s, t, r, rfl, rfl⟩, rfl⟩ := h
    refine ⟨as ++ [⟨s, t, r, c⟩], .fz (.int (i : Nat)), (fun o h => nomatch h), by simp [la], fun a ha => ?_, ?_, ?_⟩
    · rcases List.mem_append.mp ha with z | z
      · exact ca a z
      · rw [List.mem_singleton.mp z]
    · rw [List.map_append]; rfl
    · unfold omOf
      rw [List.flatMap_append]; rfl
  obtain ⟨as, s4, hs4, la, ca, rfl, rfl⟩ := hst
  obtain ⟨a0, a1, rfl⟩ : ∃ a0 a1, as = [a0, a1] := by
    match as, la with
    | [a0, a1], _ => exact ⟨a0, a1, rfl⟩
  have ca0 : a0.c = c := ca a0 (by simp)
  have ca1 : a1.c = c := ca a1 (by simp)
  subst ca0
  refine sdL_freeze 3 rfl ?_
  show SdL K _ (G (.fz (.adr a0.c)) (.fz (.lst [ownD n a0, ownD n a1])) s4 .no .no) _
  -- what is done
  let up : Nat := if n > 8 then 6 else 14
  let cells : List D := DL.cutD (ns.map D.int) (some 2) (some (up : Int))
  have cl : cells.length ≤ up - 2 := by
    show (DL.cutD (ns.map D.int) (some ((2 : Nat) : Int)) (some (up : Int))).length ≤ _
    unfold DL.cutD
    rw [HT.sIx_nat, HT.sIx_nat, List.length_take, List.length_map]
    omega
  have cm : ∀ d ∈ cells, ∃ z, d = .int z ∧ z.natAbs < BigM := fun d hd => by
    have h1 := List.mem_of_mem_drop (List.mem_of_mem_take hd)
    obtain ⟨z, hz, rfl⟩ := List.mem_map.mp h1
    exact ⟨z, rfl, big_cell (hb z hz)⟩
  have hw : Ei K (iList K (tSl (rSlA K) (tVar 0) (tPart (tC (.int 2))) (tPart (tOp (rIx K) (tLst (tCons (tC (.int 14)) (tCons (tC (.int 6)) tNil))) (tCB rIntA (tCons (tOp (rI0 fun i j => .bl (decide (j < i))) (tVar 1) (tC (.int 8))) tNil)))))) (G (.fz (.adr a0.c)) (.fz (.lst [ownD n a0, ownD n a1])) s4 .no .no) cells := ei_list (ed_sl (ed_fz 0 rfl) (eo_some (ed_int 2)) (eo_some (ed_op (ed_lst (ea_cons (ed_int 14) (ea_cons (ed_int 6) ea_nil))) (ed_cb (ea_cons (ed_op (ed_fz 1 rfl) (ed_int 8) r2_gt) ea_nil) rc_intB) (r2_ixL (by
      show atI [D.int 14, D.int 6] (if decide ((8 : Int) < (n : Int)) = true then 1 else 0) = some (.int (up : Int))
      by_cases h : n > 8
      · rw [if_pos (decide_eq_true (by omega))]
        show _ = some (D.int ((if n > 8 then 6 else 14 : Nat) : Int))
        rw [if_pos h]; rfl
      · rw [if_neg (by rw [decide_eq_false (by omega)]; decide)]
        show _ = some (D.int ((if n > 8 then 6 else 14 : Nat) : Int))
        rw [if_neg h]; rfl)))) rs_scr)
  refine sdL_nd fun nd => ?_
  have ks0 : (((a0.c, Ow.lst []) :: omOf a_Span n [a0, a1]) : OmT).map (·.1) = [a0.c, a0.s, a0.t, a0.r, a1.s, a1.t, a1.r] := rfl
  obtain ⟨ne0, ne1⟩ := Two4.ne nd ks0 ca1
  rw [ks0] at nd
  refine sdL_for (ds := cells) (fun i Γ1 Om1 => (∃ s4 s5, Γ1 = G (.fz (.adr a0.c)) (.fz (.lst [ownD n a0, ownD n a1])) s4 s5 .no) ∧ Two4 a_Span Om1 n a0 a1 i) ?_ hw ⟨⟨_, _, rfl⟩, ⟨own0, own0, [], ⟨by simp [omOf], by simp [omOf, topsD, own0], by simp [omOf, rowsD, own0], by simp⟩, ⟨by simp [omOf], by simp [omOf, topsD, own0], by simp [omOf, rowsD, own0], by rw [ca1]; simp⟩, own_nil (by omega), own_nil (by omega), Nat.le_refl _, Nat.le_refl _, Nat.zero_le _, fun e h => nomatch h⟩, ks0, ca1⟩ (fun i Γ1 Om1 d hd hst => ?_) fun Γ1 Om1 hst => ?_
  · intro i o h
    match i, h with
    | 0, h => cases h
    | 1, h => cases h
    | 2, h => cases h
    | 3, h => cases h
    | 4, h => exact hs4 o (Option.some.inj h)
    | 5, h => cases h
    | 6, h => cases h
  · obtain ⟨⟨s4, s5, rfl⟩, tw⟩ := hst
    obtain ⟨z, rfl, hz⟩ := cm d (List.mem_of_getElem? hd)
    obtain ⟨A0, A1, cs, h0, h1, O0, O1, m0, m1, l, pr⟩ := tw.ex
    have hi : i < cells.length := (List.getElem?_eq_some_iff.mp hd).1
    have n8 : n ≤ 8 ∨ i < 4 := by
      by_cases h : n > 8
      · right
        have : up = 6 := if_pos h
        omega
      · left; omega
    have i12 : i < 12 := by
      have : up ≤ 14 := by show (if _ then _ else _) ≤ 14; split <;> decide
      omega
    refine ⟨[5], _, eg_name 5, ?_⟩
    let ix : Int := z / 5 % 7 / 6
    have ix2 : ix = 0 ∨ ix = 1 := by show z / 5 % 7 / 6 = 0 ∨ z / 5 % 7 / 6 = 1; omega
    have ixE : Ed K (tOp rFdA (tOp (rI (fun _ j => 0 < j) fun i j => .int (i % j)) (tOp rFdA (tVar 5) (tC (.int 5))) (tC (.int 7))) (tC (.int 6))) (G (.fz (.adr a0.c)) (.fz (.lst [ownD n a0, ownD n a1])) s4 (.fz (.int z)) .no) (.int ix) := ed_op (ed_op (ed_op (ed_fz 5 rfl) (ed_int 5) (r2_fdP (by decide))) (ed_int 7) (r2_mod (by decide))) (ed_int 6) (r2_fdP (by decide))
    have ndO : (Om1.map (·.1)).Nodup := by rw [tw.ks]; exact nd
    rcases ix2 with e | e
    · have oE := ed_op (r := rIx K) (d := ownD n a0) (ed_fz (K := K) (Γ := G (.fz (.adr a0.c)) (.fz (.lst [ownD n a0, ownD n a1])) s4 (.fz (.int z)) .no) 3 rfl) ixE (r2_ixL (by rw [e]; rfl))
      exact sdN_ifN (edE_is (edE_call (Pre := DePre a_Span) (Post := DePost a_Span) (edE_ed oE) (ea_cons (ed_fz 5 rfl) ea_nil) ⟨Om1, n, a0, A0, cs, z⟩ ⟨rfl, rfl, h0, O0, ne0, by show n ≤ 8 ∨ A0.tops.length < 8; omega, by show cs.length ≤ 900; omega, hz⟩ fun d Om' h => by
        obtain ⟨_, _, _, M⟩ := h
        exact M.ks) fun d Om' h => by
        obtain ⟨e1, A', cs', M⟩ := h
        exact ⟨e1, ⟨_, _, rfl⟩, Two4.step ndO tw.ks tw.ec h1 O1 m0 m1 l pr M⟩)
    · have oE := ed_op (r := rIx K) (d := ownD n a1) (ed_fz (K := K) (Γ := G (.fz (.adr a0.c)) (.fz (.lst [ownD n a0, ownD n a1])) s4 (.fz (.int z)) .no) 3 rfl) ixE (r2_ixL (by rw [e]; rfl))
      exact sdN_ifN (edE_is (edE_call (Pre := DePre a_Span) (Post := DePost a_Span) (edE_ed oE) (ea_cons (ed_fz 5 rfl) ea_nil) ⟨Om1, n, a1, A1, cs, z⟩ ⟨rfl, rfl, h1, O1, ne1, by show n ≤ 8 ∨ A1.tops.length < 8; omega, by show cs.length ≤ 900; omega, hz⟩ fun d Om' h => by
        obtain ⟨_, _, _, M⟩ := h
        exact M.ks) fun d Om' h => by
        obtain ⟨e1, A', cs', M⟩ := h
        exact ⟨e1, ⟨_, _, rfl⟩, Two4.swap ndO tw.ks tw.ec h0 O0 m0 m1 l pr M⟩)
  · obtain ⟨⟨s4, s5, rfl⟩, tw⟩ := hst
    obtain ⟨A0, A1, cs, h0, h1, O0, O1, m0, m1, l, pr⟩ := tw.ex
    have i12 : cells.length ≤ 12 := by
      have : up ≤ 14 := by show (if _ then _ else _) ≤ 14; split <;> decide
      omega
    refine sdL_ret (edE_view (n := 0) (d := .bl true) (Γ' := G (.fz (.lst cs)) (.fz (.lst [ownD n a0, ownD n a1])) s4 s5 .no) (.cons (.same _) (.cons (.same _) (.cons (.up (.adr h0.c)) (UpG.refl _)))) (edH_lf (ed_is (ed_op (d := .bl (eqD (.lst []) (.lst []))) (dx := .lst []) (ed_is (ed_lc cs id (fun _ => false) id (Ei.is (ei_list (ed_fz 2 rfl)) (List.map_id cs).symm) (by omega) fun e he => ⟨[6], _, eg_name 6, by simp, ?_, fun z => nomatch z⟩) (by rw [filter_none (fun _ _ => rfl)]; rfl)) (ed_lst ea_nil) (r2_eq (n := 1) (m := 1) (.lst fun d hd => nomatch hd) (.lst fun d hd => nomatch hd))) (by rw [eqD_nil]; rfl)) (lf_bl true)) (.bl true)) fun d Om' h => h.1
    obtain ⟨v, pv, rfl⟩ := pr e he
    exact et_is (et_test (ed_op (ed_op (ed_fz 6 rfl) (ed_int 0) (r2_ixT rfl)) (ed_op (ed_fz 6 rfl) (ed_int 1) (r2_ixT rfl)) (r2_ne pv pv))) (by rw [eqD_refl pv]; rfl)

end

theorem all_mk {l : PySem.W.OpenLaw} {w : World} {K : PySem.W.Frag} {h : Heap} {mg : Str → Option Value} {fa : Addr} (X : K.In h) (G : h.Ns mainGlobals mg) (hfa : mg "law" = some (.ref fa))
    {a_WeighError a_Nought a_NoText a_NoRow a_NoMachine a_NoWord a_OtherSigns a_TooMany a_Span a_NONE a_WHOLE : Addr}
    {fa_is_whole : Addr} {od_is_whole an_is_whole : Option Addr} {sl_is_whole : Array (Option Value)} {oc_is_whole kV_is_whole dc_is_whole pm_is_whole cd_is_whole ct_is_whole : Value}
    {fa_divisor : Addr} {od_divisor an_divisor : Option Addr} {sl_divisor : Array (Option Value)} {oc_divisor kV_divisor dc_divisor pm_divisor cd_divisor ct_divisor : Value}
    {fa_is_share : Addr} {od_is_share an_is_share : Option Addr} {sl_is_share : Array (Option Value)} {oc_is_share kV_is_share dc_is_share pm_is_share cd_is_share ct_is_share : Value}
    {fa_share : Addr} {od_share an_share : Option Addr} {sl_share : Array (Option Value)} {oc_share kV_share dc_share pm_share cd_share ct_share : Value}
    {fa_plus : Addr} {od_plus an_plus : Option Addr} {sl_plus : Array (Option Value)} {oc_plus kV_plus dc_plus pm_plus cd_plus ct_plus : Value}
    {fa_less : Addr} {od_less an_less : Option Addr} {sl_less : Array (Option Value)} {oc_less kV_less dc_less pm_less cd_less ct_less : Value}
    {fa_times : Addr} {od_times an_times : Option Addr} {sl_times : Array (Option Value)} {oc_times kV_times dc_times pm_times cd_times ct_times : Value}
    {fa_over : Addr} {od_over an_over : Option Addr} {sl_over : Array (Option Value)} {oc_over kV_over dc_over pm_over cd_over ct_over : Value}
    {fa_is_row : Addr} {od_is_row an_is_row : Option Addr} {sl_is_row : Array (Option Value)} {oc_is_row kV_is_row dc_is_row pm_is_row cd_is_row ct_is_row : Value}
    {fa_lead_of : Addr} {od_lead_of an_lead_of : Option Addr} {sl_lead_of : Array (Option Value)} {oc_lead_of kV_lead_of dc_lead_of pm_lead_of cd_lead_of ct_lead_of : Value}
    {fa_moved : Addr} {od_moved an_moved : Option Addr} {sl_moved : Array (Option Value)} {oc_moved kV_moved dc_moved pm_moved cd_moved ct_moved : Value}
    {fa_SpanD_initD : Addr} {od_SpanD_initD an_SpanD_initD : Option Addr} {sl_SpanD_initD : Array (Option Value)} {oc_SpanD_initD kV_SpanD_initD dc_SpanD_initD pm_SpanD_initD cd_SpanD_initD ct_SpanD_initD : Value}
    {fa_Span_parted : Addr} {od_Span_parted an_Span_parted : Option Addr} {sl_Span_parted : Array (Option Value)} {oc_Span_parted kV_Span_parted dc_Span_parted pm_Span_parted cd_Span_parted ct_Span_parted : Value}
    {fa_Span_put : Addr} {od_Span_put an_Span_put : Option Addr} {sl_Span_put : Array (Option Value)} {oc_Span_put kV_Span_put dc_Span_put pm_Span_put cd_Span_put ct_Span_put : Value}
    {fa_Span_tells : Addr} {od_Span_tells an_Span_tells : Option Addr} {sl_Span_tells : Array (Option Value)} {oc_Span_tells kV_Span_tells dc_Span_tells pm_Span_tells cd_Span_tells ct_Span_tells : Value}
    {fa_Span_many : Addr} {od_Span_many an_Span_many : Option Addr} {sl_Span_many : Array (Option Value)} {oc_Span_many kV_Span_many dc_Span_many pm_Span_many cd_Span_many ct_Span_many : Value}
    {fa_law_cell_at : Addr} {od_law_cell_at an_law_cell_at : Option Addr} {sl_law_cell_at : Array (Option Value)} {oc_law_cell_at kV_law_cell_at dc_law_cell_at pm_law_cell_at cd_law_cell_at ct_law_cell_at : Value}
    {fa_law_whole : Addr} {od_law_whole an_law_whole : Option Addr} {sl_law_whole : Array (Option Value)} {oc_law_whole kV_law_whole dc_law_whole pm_law_whole cd_law_whole ct_law_whole : Value}
    {fa_law_common : Addr} {od_law_common an_law_common : Option Addr} {sl_law_common : Array (Option Value)} {oc_law_common kV_law_common dc_law_common pm_law_common cd_law_common ct_law_common : Value}
    {fa_law_share : Addr} {od_law_share an_law_share : Option Addr} {sl_law_share : Array (Option Value)} {oc_law_share kV_law_share dc_law_share pm_law_share cd_law_share ct_law_share : Value}
    {fa_law_is : Addr} {od_law_is an_law_is : Option Addr} {sl_law_is : Array (Option Value)} {oc_law_is kV_law_is dc_law_is pm_law_is cd_law_is ct_law_is : Value}
    {fa_law_word_of : Addr} {od_law_word_of an_law_word_of : Option Addr} {sl_law_word_of : Array (Option Value)} {oc_law_word_of kV_law_word_of dc_law_word_of pm_law_word_of cd_law_word_of ct_law_word_of : Value}
    {fa_law_plus : Addr} {od_law_plus an_law_plus : Option Addr} {sl_law_plus : Array (Option Value)} {oc_law_plus kV_law_plus dc_law_plus pm_law_plus cd_law_plus ct_law_plus : Value}
    {fa_law_times : Addr} {od_law_times an_law_times : Option Addr} {sl_law_times : Array (Option Value)} {oc_law_times kV_law_times dc_law_times pm_law_times cd_law_times ct_law_times : Value}
    {fa_law_rank : Addr} {od_law_rank an_law_rank : Option Addr} {sl_law_rank : Array (Option Value)} {oc_law_rank kV_law_rank dc_law_rank pm_law_rank cd_law_rank ct_law_rank : Value}
    {fa_law_tops_by : Addr} {od_law_tops_by an_law_tops_by : Option Addr} {sl_law_tops_by : Array (Option Value)} {oc_law_tops_by kV_law_tops_by dc_law_tops_by pm_law_tops_by cd_law_tops_by ct_law_tops_by : Value}
    {fa_law_told : Addr} {od_law_told an_law_told : Option Addr} {sl_law_told : Array (Option Value)} {oc_law_told kV_law_told dc_law_told pm_law_told cd_law_told ct_law_told : Value}
    {fa_law_wrong : Addr} {od_law_wrong an_law_wrong : Option Addr} {sl_law_wrong : Array (Option Value)} {oc_law_wrong kV_law_wrong dc_law_wrong pm_law_wrong cd_law_wrong ct_law_wrong : Value}
    {fa_law_sums : Addr} {od_law_sums an_law_sums : Option Addr} {sl_law_sums : Array (Option Value)} {oc_law_sums kV_law_sums dc_law_sums pm_law_sums cd_law_sums ct_law_sums : Value}
    {fa_law_tells_good : Addr} {od_law_tells_good an_law_tells_good : Option Addr} {sl_law_tells_good : Array (Option Value)} {oc_law_tells_good kV_law_tells_good dc_law_tells_good pm_law_tells_good cd_law_tells_good ct_law_tells_good : Value}
    {fa_law_deed : Addr} {od_law_deed an_law_deed : Option Addr} {sl_law_deed : Array (Option Value)} {oc_law_deed kV_law_deed dc_law_deed pm_law_deed cd_law_deed ct_law_deed : Value}
    {fa_law : Addr} {od_law an_law : Option Addr} {sl_law : Array (Option Value)} {oc_law kV_law dc_law pm_law cd_law ct_law : Value}
    {od_NONE : Option Addr} {tk_NONE tl_NONE : Tok} {n_NONE : Nat} {sl_NONE : Array (Option Value)}
    {od_WHOLE : Option Addr} {tk_WHOLE tl_WHOLE : Tok} {n_WHOLE : Nat} {sl_WHOLE : Array (Option Value)}
    (h1_is_whole : PySem.W.nsIn K mainGlobals "is_whole" = some (some (.ref fa_is_whole)))
    (h2_is_whole : K.lookup fa_is_whole = some ⟨oc_is_whole, od_is_whole, .func (PySem.W.fnOf "is_whole" "is_whole" (defArgs s_is_whole) (defBody s_is_whole) (defScope s_is_whole) .none kV_is_whole dc_is_whole pm_is_whole an_is_whole cd_is_whole ct_is_whole), sl_is_whole⟩)
    (h3_is_whole : PySem.W.codeIn K cd_is_whole "is_whole" = true)
    (h4_is_whole : PySem.W.keepIn K (.ref fa_is_whole) = true)
    (h1_divisor : PySem.W.nsIn K mainGlobals "divisor" = some (some (.ref fa_divisor)))
    (h2_divisor : K.lookup fa_divisor = some ⟨oc_divisor, od_divisor, .func (PySem.W.fnOf "divisor" "divisor" (defArgs s_divisor) (defBody s_divisor) (defScope s_divisor) .none kV_divisor dc_divisor pm_divisor an_divisor cd_divisor ct_divisor), sl_divisor⟩)
    (h3_divisor : PySem.W.codeIn K cd_divisor "divisor" = true)
    (h4_divisor : PySem.W.keepIn K (.ref fa_divisor) = true)
    (h1_is_share : PySem.W.nsIn K mainGlobals "is_share" = some (some (.ref fa_is_share)))
    (h2_is_share : K.lookup fa_is_share = some ⟨oc_is_share, od_is_share, .func (PySem.W.fnOf "is_share" "is_share" (defArgs s_is_share) (defBody s_is_share) (defScope s_is_share) .none kV_is_share dc_is_share pm_is_share an_is_share cd_is_share ct_is_share), sl_is_share⟩)
    (h3_is_share : PySem.W.codeIn K cd_is_share "is_share" = true)
    (h4_is_share : PySem.W.keepIn K (.ref fa_is_share) = true)
    (h1_share : PySem.W.nsIn K mainGlobals "share" = some (some (.ref fa_share)))
    (h2_share : K.lookup fa_share = some ⟨oc_share, od_share, .func (PySem.W.fnOf "share" "share" (defArgs s_share) (defBody s_share) (defScope s_share) .none kV_share dc_share pm_share an_share cd_share ct_share), sl_share⟩)
    (h3_share : PySem.W.codeIn K cd_share "share" = true)
    (h4_share : PySem.W.keepIn K (.ref fa_share) = true)
    (h1_plus : PySem.W.nsIn K mainGlobals "plus" = some (some (.ref fa_plus)))
    (h2_plus : K.lookup fa_plus = some ⟨oc_plus, od_plus, .func (PySem.W.fnOf "plus" "plus" (defArgs s_plus) (defBody s_plus) (defScope s_plus) .none kV_plus dc_plus pm_plus an_plus cd_plus ct_plus), sl_plus⟩)
    (h3_plus : PySem.W.codeIn K cd_plus "plus" = true)
    (h4_plus : PySem.W.keepIn K (.ref fa_plus) = true)
    (h1_less : PySem.W.nsIn K mainGlobals "less" = some (some (.ref fa_less)))
    (h2_less : K.lookup fa_less = some ⟨oc_less, od_less, .func (PySem.W.fnOf "less" "less" (defArgs s_less) (defBody s_less) (defScope s_less) .none kV_less dc_less pm_less an_less cd_less ct_less), sl_less⟩)
    (h3_less : PySem.W.codeIn K cd_less "less" = true)
    (h4_less : PySem.W.keepIn K (.ref fa_less) = true)
    (h1_times : PySem.W.nsIn K mainGlobals "times" = some (some (.ref fa_times)))
    (h2_times : K.lookup fa_times = some ⟨oc_times, od_times, .func (PySem.W.fnOf "times" "times" (defArgs s_times) (defBody s_times) (defScope s_times) .none kV_times dc_times pm_times an_times cd_times ct_times), sl_times⟩)
    (h3_times : PySem.W.codeIn K cd_times "times" = true)
    (h4_times : PySem.W.keepIn K (.ref fa_times) = true)
    (h1_over : PySem.W.nsIn K mainGlobals "over" = some (some (.ref fa_over)))
    (h2_over : K.lookup fa_over = some ⟨oc_over, od_over, .func (PySem.W.fnOf "over" "over" (defArgs s_over) (defBody s_over) (defScope s_over) .none kV_over dc_over pm_over an_over cd_over ct_over), sl_over⟩)
    (h3_over : PySem.W.codeIn K cd_over "over" = true)
    (h4_over : PySem.W.keepIn K (.ref fa_over) = true)
    (h1_is_row : PySem.W.nsIn K mainGlobals "is_row" = some (some (.ref fa_is_row)))
    (h2_is_row : K.lookup fa_is_row = some ⟨oc_is_row, od_is_row, .func (PySem.W.fnOf "is_row" "is_row" (defArgs s_is_row) (defBody s_is_row) (defScope s_is_row) .none kV_is_row dc_is_row pm_is_row an_is_row cd_is_row ct_is_row), sl_is_row⟩)
    (h3_is_row : PySem.W.codeIn K cd_is_row "is_row" = true)
    (h4_is_row : PySem.W.keepIn K (.ref fa_is_row) = true)
    (h1_lead_of : PySem.W.nsIn K mainGlobals "lead_of" = some (some (.ref fa_lead_of)))
    (h2_lead_of : K.lookup fa_lead_of = some ⟨oc_lead_of, od_lead_of, .func (PySem.W.fnOf "lead_of" "lead_of" (defArgs s_lead_of) (defBody s_lead_of) (defScope s_lead_of) .none kV_lead_of dc_lead_of pm_lead_of an_lead_of cd_lead_of ct_lead_of), sl_lead_of⟩)
    (h3_lead_of : PySem.W.codeIn K cd_lead_of "lead_of" = true)
    (h4_lead_of : PySem.W.keepIn K (.ref fa_lead_of) = true)
    (h1_moved : PySem.W.nsIn K mainGlobals "moved" = some (some (.ref fa_moved)))
    (h2_moved : K.lookup fa_moved = some ⟨oc_moved, od_moved, .func (PySem.W.fnOf "moved" "moved" (defArgs s_moved) (defBody s_moved) (defScope s_moved) .none kV_moved dc_moved pm_moved an_moved cd_moved ct_moved), sl_moved⟩)
    (h3_moved : PySem.W.codeIn K cd_moved "moved" = true)
    (h4_moved : PySem.W.keepIn K (.ref fa_moved) = true)
    (h1_law_cell_at : PySem.W.nsIn K mainGlobals "_law_cell_at" = some (some (.ref fa_law_cell_at)))
    (h2_law_cell_at : K.lookup fa_law_cell_at = some ⟨oc_law_cell_at, od_law_cell_at, .func (PySem.W.fnOf "_law_cell_at" "_law_cell_at" (defArgs s_law_cell_at) (defBody s_law_cell_at) (defScope s_law_cell_at) .none kV_law_cell_at dc_law_cell_at pm_law_cell_at an_law_cell_at cd_law_cell_at ct_law_cell_at), sl_law_cell_at⟩)
    (h3_law_cell_at : PySem.W.codeIn K cd_law_cell_at "_law_cell_at" = true)
    (h4_law_cell_at : PySem.W.keepIn K (.ref fa_law_cell_at) = true)
    (h1_law_whole : PySem.W.nsIn K mainGlobals "_law_whole" = some (some (.ref fa_law_whole)))
    (h2_law_whole : K.lookup fa_law_whole = some ⟨oc_law_whole, od_law_whole, .func (PySem.W.fnOf "_law_whole" "_law_whole" (defArgs s_law_whole) (defBody s_law_whole) (defScope s_law_whole) .none kV_law_whole dc_law_whole pm_law_whole an_law_whole cd_law_whole ct_law_whole), sl_law_whole⟩)
    (h3_law_whole : PySem.W.codeIn K cd_law_whole "_law_whole" = true)
    (h4_law_whole : PySem.W.keepIn K (.ref fa_law_whole) = true)
    (h1_law_common : PySem.W.nsIn K mainGlobals "_law_common" = some (some (.ref fa_law_common)))
    (h2_law_common : K.lookup fa_law_common = some ⟨oc_law_common, od_law_common, .func (PySem.W.fnOf "_law_common" "_law_common" (defArgs s_law_common) (defBody s_law_common) (defScope s_law_common) .none kV_law_common dc_law_common pm_law_common an_law_common cd_law_common ct_law_common), sl_law_common⟩)
    (h3_law_common : PySem.W.codeIn K cd_law_common "_law_common" = true)
    (h4_law_common : PySem.W.keepIn K (.ref fa_law_common) = true)
    (h1_law_share : PySem.W.nsIn K mainGlobals "_law_share" = some (some (.ref fa_law_share)))
    (h2_law_share : K.lookup fa_law_share = some ⟨oc_law_share, od_law_share, .func (PySem.W.fnOf "_law_share" "_law_share" (defArgs s_law_share) (defBody s_law_share) (defScope s_law_share) .none kV_law_share dc_law_share pm_law_share an_law_share cd_law_share ct_law_share), sl_law_share⟩)
    (h3_law_share : PySem.W.codeIn K cd_law_share "_law_share" = true)
    (h4_law_share : PySem.W.keepIn K (.ref fa_law_share) = true)
    (h1_law_is : PySem.W.nsIn K mainGlobals "_law_is" = some (some (.ref fa_law_is)))
    (h2_law_is : K.lookup fa_law_is = some ⟨oc_law_is, od_law_is, .func (PySem.W.fnOf "_law_is" "_law_is" (defArgs s_law_is) (defBody s_law_is) (defScope s_law_is) .none kV_law_is dc_law_is pm_law_is an_law_is cd_law_is ct_law_is), sl_law_is⟩)
    (h3_law_is : PySem.W.codeIn K cd_law_is "_law_is" = true)
    (h4_law_is : PySem.W.keepIn K (.ref fa_law_is) = true)
    (h1_law_word_of : PySem.W.nsIn K mainGlobals "_law_word_of" = some (some (.ref fa_law_word_of)))
    (h2_law_word_of : K.lookup fa_law_word_of = some ⟨oc_law_word_of, od_law_word_of, .func (PySem.W.fnOf "_law_word_of" "_law_word_of" (defArgs s_law_word_of) (defBody s_law_word_of) (defScope s_law_word_of) .none kV_law_word_of dc_law_word_of pm_law_word_of an_law_word_of cd_law_word_of ct_law_word_of), sl_law_word_of⟩)
    (h3_law_word_of : PySem.W.codeIn K cd_law_word_of "_law_word_of" = true)
    (h4_law_word_of : PySem.W.keepIn K (.ref fa_law_word_of) = true)
    (h1_law_plus : PySem.W.nsIn K mainGlobals "_law_plus" = some (some (.ref fa_law_plus)))
    (h2_law_plus : K.lookup fa_law_plus = some ⟨oc_law_plus, od_law_plus, .func (PySem.W.fnOf "_law_plus" "_law_plus" (defArgs s_law_plus) (defBody s_law_plus) (defScope s_law_plus) .none kV_law_plus dc_law_plus pm_law_plus an_law_plus cd_law_plus ct_law_plus), sl_law_plus⟩)
    (h3_law_plus : PySem.W.codeIn K cd_law_plus "_law_plus" = true)
    (h4_law_plus : PySem.W.keepIn K (.ref fa_law_plus) = true)
    (h1_law_times : PySem.W.nsIn K mainGlobals "_law_times" = some (some (.ref fa_law_times)))
    (h2_law_times : K.lookup fa_law_times = some ⟨oc_law_times, od_law_times, .func (PySem.W.fnOf "_law_times" "_law_times" (defArgs s_law_times) (defBody s_law_times) (defScope s_law_times) .none kV_law_times dc_law_times pm_law_times an_law_times cd_law_times ct_law_times), sl_law_times⟩)
    (h3_law_times : PySem.W.codeIn K cd_law_times "_law_times" = true)
    (h4_law_times : PySem.W.keepIn K (.ref fa_law_times) = true)
    (h1_law_rank : PySem.W.nsIn K mainGlobals "_law_rank" = some (some (.ref fa_law_rank)))
    (h2_law_rank : K.lookup fa_law_rank = some ⟨oc_law_rank, od_law_rank, .func (PySem.W.fnOf "_law_rank" "_law_rank" (defArgs s_law_rank) (defBody s_law_rank) (defScope s_law_rank) .none kV_law_rank dc_law_rank pm_law_rank an_law_rank cd_law_rank ct_law_rank), sl_law_rank⟩)
    (h3_law_rank : PySem.W.codeIn K cd_law_rank "_law_rank" = true)
    (h4_law_rank : PySem.W.keepIn K (.ref fa_law_rank) = true)
    (h1_law_tops_by : PySem.W.nsIn K mainGlobals "_law_tops_by" = some (some (.ref fa_law_tops_by)))
    (h2_law_tops_by : K.lookup fa_law_tops_by = some ⟨oc_law_tops_by, od_law_tops_by, .func (PySem.W.fnOf "_law_tops_by" "_law_tops_by" (defArgs s_law_tops_by) (defBody s_law_tops_by) (defScope s_law_tops_by) .none kV_law_tops_by dc_law_tops_by pm_law_tops_by an_law_tops_by cd_law_tops_by ct_law_tops_by), sl_law_tops_by⟩)
    (h3_law_tops_by : PySem.W.codeIn K cd_law_tops_by "_law_tops_by" = true)
    (h4_law_tops_by : PySem.W.keepIn K (.ref fa_law_tops_by) = true)
    (h1_law_told : PySem.W.nsIn K mainGlobals "_law_told" = some (some (.ref fa_law_told)))
    (h2_law_told : K.lookup fa_law_told = some ⟨oc_law_told, od_law_told, .func (PySem.W.fnOf "_law_told" "_law_told" (defArgs s_law_told) (defBody s_law_told) (defScope s_law_told) .none kV_law_told dc_law_told pm_law_told an_law_told cd_law_told ct_law_told), sl_law_told⟩)
    (h3_law_told : PySem.W.codeIn K cd_law_told "_law_told" = true)
    (h4_law_told : PySem.W.keepIn K (.ref fa_law_told) = true)
    (h1_law_wrong : PySem.W.nsIn K mainGlobals "_law_wrong" = some (some (.ref fa_law_wrong)))
    (h2_law_wrong : K.lookup fa_law_wrong = some ⟨oc_law_wrong, od_law_wrong, .func (PySem.W.fnOf "_law_wrong" "_law_wrong" (defArgs s_law_wrong) (defBody s_law_wrong) (defScope s_law_wrong) .none kV_law_wrong dc_law_wrong pm_law_wrong an_law_wrong cd_law_wrong ct_law_wrong), sl_law_wrong⟩)
    (h3_law_wrong : PySem.W.codeIn K cd_law_wrong "_law_wrong" = true)
    (h4_law_wrong : PySem.W.keepIn K (.ref fa_law_wrong) = true)
    (h1_law_sums : PySem.W.nsIn K mainGlobals "_law_sums" = some (some (.ref fa_law_sums)))
    (h2_law_sums : K.lookup fa_law_sums = some ⟨oc_law_sums, od_law_sums, .func (PySem.W.fnOf "_law_sums" "_law_sums" (defArgs s_law_sums) (defBody s_law_sums) (defScope s_law_sums) .none kV_law_sums dc_law_sums pm_law_sums an_law_sums cd_law_sums ct_law_sums), sl_law_sums⟩)
    (h3_law_sums : PySem.W.codeIn K cd_law_sums "_law_sums" = true)
    (h4_law_sums : PySem.W.keepIn K (.ref fa_law_sums) = true)
    (h1_law_tells_good : PySem.W.nsIn K mainGlobals "_law_tells_good" = some (some (.ref fa_law_tells_good)))
    (h2_law_tells_good : K.lookup fa_law_tells_good = some ⟨oc_law_tells_good, od_law_tells_good, .func (PySem.W.fnOf "_law_tells_good" "_law_tells_good" (defArgs s_law_tells_good) (defBody s_law_tells_good) (defScope s_law_tells_good) .none kV_law_tells_good dc_law_tells_good pm_law_tells_good an_law_tells_good cd_law_tells_good ct_law_tells_good), sl_law_tells_good⟩)
    (h3_law_tells_good : PySem.W.codeIn K cd_law_tells_good "_law_tells_good" = true)
    (h4_law_tells_good : PySem.W.keepIn K (.ref fa_law_tells_good) = true)
    (h1_law_deed : PySem.W.nsIn K mainGlobals "_law_deed" = some (some (.ref fa_law_deed)))
    (h2_law_deed : K.lookup fa_law_deed = some ⟨oc_law_deed, od_law_deed, .func (PySem.W.fnOf "_law_deed" "_law_deed" (defArgs s_law_deed) (defBody s_law_deed) (defScope s_law_deed) .none kV_law_deed dc_law_deed pm_law_deed an_law_deed cd_law_deed ct_law_deed), sl_law_deed⟩)
    (h3_law_deed : PySem.W.codeIn K cd_law_deed "_law_deed" = true)
    (h4_law_deed : PySem.W.keepIn K (.ref fa_law_deed) = true)
    (h1_law : PySem.W.nsIn K mainGlobals "law" = some (some (.ref fa_law)))
    (h2_law : K.lookup fa_law = some ⟨oc_law, od_law, .func (PySem.W.fnOf "law" "law" (defArgs s_law) (defBody s_law) (defScope s_law) .none kV_law dc_law pm_law an_law cd_law ct_law), sl_law⟩)
    (h3_law : PySem.W.codeIn K cd_law "law" = true)
    (h4_law : PySem.W.keepIn K (.ref fa_law) = true)
    (n_isinstance : PySem.W.nsIn K mainGlobals "isinstance" = some none)
    (n_int : PySem.W.nsIn K mainGlobals "int" = some none)
    (n_bool : PySem.W.nsIn K mainGlobals "bool" = some none)
    (n_tuple : PySem.W.nsIn K mainGlobals "tuple" = some none)
    (n_len : PySem.W.nsIn K mainGlobals "len" = some none)
    (n_abs : PySem.W.nsIn K mainGlobals "abs" = some none)
    (n_list : PySem.W.nsIn K mainGlobals "list" = some none)
    (n_all : PySem.W.nsIn K mainGlobals "all" = some none)
    (n_range : PySem.W.nsIn K mainGlobals "range" = some none)
    (n_zip : PySem.W.nsIn K mainGlobals "zip" = some none)
    (n_ValueError : PySem.W.nsIn K mainGlobals "ValueError" = some none)
    (m_WeighError : PySem.W.nsIn K mainGlobals "WeighError" = some (some (.ref a_WeighError)))
    (m_Nought : PySem.W.nsIn K mainGlobals "Nought" = some (some (.ref a_Nought)))
    (m_NoText : PySem.W.nsIn K mainGlobals "NoText" = some (some (.ref a_NoText)))
    (m_NoRow : PySem.W.nsIn K mainGlobals "NoRow" = some (some (.ref a_NoRow)))
    (m_NoMachine : PySem.W.nsIn K mainGlobals "NoMachine" = some (some (.ref a_NoMachine)))
    (m_NoWord : PySem.W.nsIn K mainGlobals "NoWord" = some (some (.ref a_NoWord)))
    (m_OtherSigns : PySem.W.nsIn K mainGlobals "OtherSigns" = some (some (.ref a_OtherSigns)))
    (m_TooMany : PySem.W.nsIn K mainGlobals "TooMany" = some (some (.ref a_TooMany)))
    (x_WeighError : PySem.W.excIn K a_WeighError [.type "ValueError", .type "Exception", .type "BaseException", .type "object"] "ValueError.__new__" = true)
    (k_WeighError : PySem.W.keepIn K (.ref a_WeighError) = true)
    (b_WeighError : PySem.W.subIn K (.ref a_WeighError) (.type "BaseException") = some true)
    (t_WeighError : PySem.W.typeIn K (.ref a_WeighError) = some (.type "type"))
    (x_Nought : PySem.W.excIn K a_Nought [.type "ValueError", .type "Exception", .type "BaseException", .type "object"] "ValueError.__new__" = true)
    (k_Nought : PySem.W.keepIn K (.ref a_Nought) = true)
    (b_Nought : PySem.W.subIn K (.ref a_Nought) (.type "BaseException") = some true)
    (t_Nought : PySem.W.typeIn K (.ref a_Nought) = some (.type "type"))
    (x_NoText : PySem.W.excIn K a_NoText [.type "ValueError", .type "Exception", .type "BaseException", .type "object"] "ValueError.__new__" = true)
    (k_NoText : PySem.W.keepIn K (.ref a_NoText) = true)
    (b_NoText : PySem.W.subIn K (.ref a_NoText) (.type "BaseException") = some true)
    (t_NoText : PySem.W.typeIn K (.ref a_NoText) = some (.type "type"))
    (x_NoRow : PySem.W.excIn K a_NoRow [.type "ValueError", .type "Exception", .type "BaseException", .type "object"] "ValueError.__new__" = true)
    (k_NoRow : PySem.W.keepIn K (.ref a_NoRow) = true)
    (b_NoRow : PySem.W.subIn K (.ref a_NoRow) (.type "BaseException") = some true)
    (t_NoRow : PySem.W.typeIn K (.ref a_NoRow) = some (.type "type"))
    (x_NoMachine : PySem.W.excIn K a_NoMachine [.type "ValueError", .type "Exception", .type "BaseException", .type "object"] "ValueError.__new__" = true)
    (k_NoMachine : PySem.W.keepIn K (.ref a_NoMachine) = true)
    (b_NoMachine : PySem.W.subIn K (.ref a_NoMachine) (.type "BaseException") = some true)
    (t_NoMachine : PySem.W.typeIn K (.ref a_NoMachine) = some (.type "type"))
    (x_NoWord : PySem.W.excIn K a_NoWord [.type "ValueError", .type "Exception", .type "BaseException", .type "object"] "ValueError.__new__" = true)
    (k_NoWord : PySem.W.keepIn K (.ref a_NoWord) = true)
    (b_NoWord : PySem.W.subIn K (.ref a_NoWord) (.type "BaseException") = some true)
    (t_NoWord : PySem.W.typeIn K (.ref a_NoWord) = some (.type "type"))
    (x_OtherSigns : PySem.W.excIn K a_OtherSigns [.type "ValueError", .type "Exception", .type "BaseException", .type "object"] "ValueError.__new__" = true)
    (k_OtherSigns : PySem.W.keepIn K (.ref a_OtherSigns) = true)
    (b_OtherSigns : PySem.W.subIn K (.ref a_OtherSigns) (.type "BaseException") = some true)
    (t_OtherSigns : PySem.W.typeIn K (.ref a_OtherSigns) = some (.type "type"))
    (x_TooMany : PySem.W.excIn K a_TooMany [.type "ValueError", .type "Exception", .type "BaseException", .type "object"] "ValueError.__new__" = true)
    (k_TooMany : PySem.W.keepIn K (.ref a_TooMany) = true)
    (b_TooMany : PySem.W.subIn K (.ref a_TooMany) (.type "BaseException") = some true)
    (t_TooMany : PySem.W.typeIn K (.ref a_TooMany) = some (.type "type"))
    (dc_WeighError : PySem.W.hasDictIn K a_WeighError = true)
    (s_NoRow_WeighError : PySem.W.subIn K (.ref a_NoRow) (.ref a_WeighError) = some true)
    (g1_NoRow : PySem.W.findIn K (.ref a_NoRow) "__getattribute__" = some (some (.builtin "BaseException.__getattribute__")))
    (g2_NoRow : PySem.W.findIn K (.ref a_NoRow) "__getattr__" = some none)
    (g4_NoRow : PySem.W.hasDictIn K a_NoRow = true)
    (g5_NoRow : PySem.W.findIn K (.ref a_NoRow) "__class__" = some (some (.builtin "object.__class__")))
    (g6_NoRow : PySem.W.specialIn K (.builtin "object.__class__") "__get__" = some (some (.builtin "getset_descriptor.__get__")))
    (g7_NoRow : PySem.W.takesIn K (.builtin "object.__class__") = some true)
    (g8_NoRow : PySem.W.mroIn K a_NoRow (.type "object") = some true)
    (ic_Nought : PySem.W.isClsIn K a_Nought = true)
    (ne_NoRow_Nought : a_NoRow ≠ a_Nought)
    (s_NoRow_Nought : PySem.W.subIn K (.ref a_NoRow) (.ref a_Nought) = some false)
    (ic_NoText : PySem.W.isClsIn K a_NoText = true)
    (ne_NoRow_NoText : a_NoRow ≠ a_NoText)
    (s_NoRow_NoText : PySem.W.subIn K (.ref a_NoRow) (.ref a_NoText) = some false)
    (ic_NoMachine : PySem.W.isClsIn K a_NoMachine = true)
    (ne_NoRow_NoMachine : a_NoRow ≠ a_NoMachine)
    (s_NoRow_NoMachine : PySem.W.subIn K (.ref a_NoRow) (.ref a_NoMachine) = some false)
    (ic_NoWord : PySem.W.isClsIn K a_NoWord = true)
    (ne_NoRow_NoWord : a_NoRow ≠ a_NoWord)
    (s_NoRow_NoWord : PySem.W.subIn K (.ref a_NoRow) (.ref a_NoWord) = some false)
    (ic_OtherSigns : PySem.W.isClsIn K a_OtherSigns = true)
    (ne_NoRow_OtherSigns : a_NoRow ≠ a_OtherSigns)
    (s_NoRow_OtherSigns : PySem.W.subIn K (.ref a_NoRow) (.ref a_OtherSigns) = some false)
    (ic_TooMany : PySem.W.isClsIn K a_TooMany = true)
    (ne_NoRow_TooMany : a_NoRow ≠ a_TooMany)
    (s_NoRow_TooMany : PySem.W.subIn K (.ref a_NoRow) (.ref a_TooMany) = some false)
    (sv_NoRow : PySem.W.subIn K (.ref a_NoRow) (.type "ValueError") = some true)
    (m_Span : PySem.W.nsIn K mainGlobals "Span" = some (some (.ref a_Span)))
    (pg_Span : PySem.W.plainGet K a_Span Str.empty = true)
    (hd_Span : PySem.W.hasDictIn K a_Span = true)
    (po_Span : PySem.W.plainOver K a_Span = true)
    (sa_Span : PySem.W.findIn K (.ref a_Span) "__setattr__" = some (some (.builtin "object.__setattr__")))
    (oc_Span : PySem.W.findIn K (.ref a_Span) "__class__" = some (some (.builtin "object.__class__")))
    (og_Span : PySem.W.specialIn K (.builtin "object.__class__") "__get__" = some (some (.builtin "getset_descriptor.__get__")))
    (ot_Span : PySem.W.takesIn K (.builtin "object.__class__") = some true)
    (om_Span : PySem.W.mroIn K a_Span (.type "object") = some true)
    (na_Span_size : PySem.W.findIn K (.ref a_Span) "size" = some none)
    (na_Span_lines : PySem.W.findIn K (.ref a_Span) "lines" = some none)
    (h5_SpanD_initD : PySem.W.findIn K (.ref a_Span) "__init__" = some (some (.ref fa_SpanD_initD)))
    (h6_SpanD_initD : PySem.W.isFn K (.ref fa_SpanD_initD) = true)
    (mk_Span : PySem.W.makesIn K a_Span = true)
    (kc_Span : PySem.W.keepIn K (.ref a_Span) = true)
    (h5_Span_parted : PySem.W.findIn K (.ref a_Span) "parted" = some (some (.ref fa_Span_parted)))
    (h6_Span_parted : PySem.W.isFn K (.ref fa_Span_parted) = true)
    (h5_Span_put : PySem.W.findIn K (.ref a_Span) "put" = some (some (.ref fa_Span_put)))
    (h6_Span_put : PySem.W.isFn K (.ref fa_Span_put) = true)
    (h5_Span_tells : PySem.W.findIn K (.ref a_Span) "tells" = some (some (.ref fa_Span_tells)))
    (h6_Span_tells : PySem.W.isFn K (.ref fa_Span_tells) = true)
    (h5_Span_many : PySem.W.findIn K (.ref a_Span) "many" = some (some (.ref fa_Span_many)))
    (h6_Span_many : PySem.W.isFn K (.ref fa_Span_many) = true)
    (m_NONE : PySem.W.nsIn K mainGlobals "NONE" = some (some (.ref a_NONE)))
    (l_NONE : K.lookup a_NONE = some ⟨.type "tuple", od_NONE, .seq #[.int 0 tk_NONE, .int 1 tl_NONE] n_NONE, sl_NONE⟩)
    (m_WHOLE : PySem.W.nsIn K mainGlobals "WHOLE" = some (some (.ref a_WHOLE)))
    (l_WHOLE : K.lookup a_WHOLE = some ⟨.type "tuple", od_WHOLE, .seq #[.int 1 tk_WHOLE, .int 1 tl_WHOLE] n_WHOLE, sl_WHOLE⟩)
    (h2_SpanD_initD : K.lookup fa_SpanD_initD = some ⟨oc_SpanD_initD, od_SpanD_initD, .func (PySem.W.fnOf "__init__" "Span.__init__" (defArgs s_SpanD_initD) (defBody s_SpanD_initD) (defScope s_SpanD_initD) .none kV_SpanD_initD dc_SpanD_initD pm_SpanD_initD an_SpanD_initD cd_SpanD_initD ct_SpanD_initD), sl_SpanD_initD⟩)
    (h3_SpanD_initD : PySem.W.codeIn K cd_SpanD_initD "Span.__init__" = true)
    (h4_SpanD_initD : PySem.W.keepIn K (.ref fa_SpanD_initD) = true)
    (h2_Span_parted : K.lookup fa_Span_parted = some ⟨oc_Span_parted, od_Span_parted, .func (PySem.W.fnOf "parted" "Span.parted" (defArgs s_Span_parted) (defBody s_Span_parted) (defScope s_Span_parted) .none kV_Span_parted dc_Span_parted pm_Span_parted an_Span_parted cd_Span_parted ct_Span_parted), sl_Span_parted⟩)
    (h3_Span_parted : PySem.W.codeIn K cd_Span_parted "Span.parted" = true)
    (h4_Span_parted : PySem.W.keepIn K (.ref fa_Span_parted) = true)
    (h2_Span_put : K.lookup fa_Span_put = some ⟨oc_Span_put, od_Span_put, .func (PySem.W.fnOf "put" "Span.put" (defArgs s_Span_put) (defBody s_Span_put) (defScope s_Span_put) .none kV_Span_put dc_Span_put pm_Span_put an_Span_put cd_Span_put ct_Span_put), sl_Span_put⟩)
    (h3_Span_put : PySem.W.codeIn K cd_Span_put "Span.put" = true)
    (h4_Span_put : PySem.W.keepIn K (.ref fa_Span_put) = true)
    (h2_Span_tells : K.lookup fa_Span_tells = some ⟨oc_Span_tells, od_Span_tells, .func (PySem.W.fnOf "tells" "Span.tells" (defArgs s_Span_tells) (defBody s_Span_tells) (defScope s_Span_tells) .none kV_Span_tells dc_Span_tells pm_Span_tells an_Span_tells cd_Span_tells ct_Span_tells), sl_Span_tells⟩)
    (h3_Span_tells : PySem.W.codeIn K cd_Span_tells "Span.tells" = true)
    (h4_Span_tells : PySem.W.keepIn K (.ref fa_Span_tells) = true)
    (h2_Span_many : K.lookup fa_Span_many = some ⟨oc_Span_many, od_Span_many, .func (PySem.W.fnOf "many" "Span.many" (defArgs s_Span_many) (defBody s_Span_many) (defScope s_Span_many) .none kV_Span_many dc_Span_many pm_Span_many an_Span_many cd_Span_many ct_Span_many), sl_Span_many⟩)
    (h3_Span_many : PySem.W.codeIn K cd_Span_many "Span.many" = true)
    (h4_Span_many : PySem.W.keepIn K (.ref fa_Span_many) = true) :
    ∃ fd : FuncData, (∀ (s : Shared) (v : Value), BindsTo s fd ⟨[v], []⟩ [("_law_script", v)]) ∧ ∀ base : Heap, K.In base → base.Ns mainGlobals mg → FnOk l.prog w K mg base CX0 20 fa fd ["_law_script"] (spLaw K) := by
  have e := hfa.symm.trans (PySem.W.mg_of X G h1_law)
  cases e
  have T : Tx K mg a_WeighError a_Nought a_NoText a_NoRow a_NoMachine a_NoWord a_OtherSigns a_TooMany a_Span a_NONE a_WHOLE := {
    d_is_whole := ⟨_, _, fun_mk (st := s_is_whole) h2_is_whole h3_is_whole h4_is_whole, PySem.W.mg_of X G h1_is_whole, (fun_mk (st := s_is_whole) h2_is_whole h3_is_whole h4_is_whole).binds (ps := ["thing"]) fun _ _ _ _ _ _ us hl => match us, hl with | [_], _ => rfl⟩,
    d_divisor := ⟨_, _, fun_mk (st := s_divisor) h2_divisor h3_divisor h4_divisor, PySem.W.mg_of X G h1_divisor, (fun_mk (st := s_divisor) h2_divisor h3_divisor h4_divisor).binds (ps := ["one", "other"]) fun _ _ _ _ _ _ us hl => match us, hl with | [_, _], _ => rfl⟩,
    d_is_share := ⟨_, _, fun_mk (st := s_is_share) h2_is_share h3_is_share h4_is_share, PySem.W.mg_of X G h1_is_share, (fun_mk (st := s_is_share) h2_is_share h3_is_share h4_is_share).binds (ps := ["thing"]) fun _ _ _ _ _ _ us hl => match us, hl with | [_], _ => rfl⟩,
    d_share := ⟨_, _, fun_mk (st := s_share) h2_share h3_share h4_share, PySem.W.mg_of X G h1_share, (fun_mk (st := s_share) h2_share h3_share h4_share).binds (ps := ["top", "bottom"]) fun _ _ _ _ _ _ us hl => match us, hl with | [_, _], _ => rfl⟩,
    d_plus := ⟨_, _, fun_mk (st := s_plus) h2_plus h3_plus h4_plus, PySem.W.mg_of X G h1_plus, (fun_mk (st := s_plus) h2_plus h3_plus h4_plus).binds (ps := ["one", "other"]) fun _ _ _ _ _ _ us hl => match us, hl with | [_, _], _ => rfl⟩,
    d_less := ⟨_, _, fun_mk (st := s_less) h2_less h3_less h4_less, PySem.W.mg_of X G h1_less, (fun_mk (st := s_less) h2_less h3_less h4_less).binds (ps := ["one", "other"]) fun _ _ _ _ _ _ us hl => match us, hl with | [_, _], _ => rfl⟩,
    d_times := ⟨_, _, fun_mk (st := s_times) h2_times h3_times h4_times, PySem.W.mg_of X G h1_times, (fun_mk (st := s_times) h2_times h3_times h4_times).binds (ps := ["one", "other"]) fun _ _ _ _ _ _ us hl => match us, hl with | [_, _], _ => rfl⟩,
    d_over := ⟨_, _, fun_mk (st := s_over) h2_over h3_over h4_over, PySem.W.mg_of X G h1_over, (fun_mk (st := s_over) h2_over h3_over h4_over).binds (ps := ["one", "other"]) fun _ _ _ _ _ _ us hl => match us, hl with | [_, _], _ => rfl⟩,
    d_is_row := ⟨_, _, fun_mk (st := s_is_row) h2_is_row h3_is_row h4_is_row, PySem.W.mg_of X G h1_is_row, (fun_mk (st := s_is_row) h2_is_row h3_is_row h4_is_row).binds (ps := ["thing", "size"]) fun _ _ _ _ _ _ us hl => match us, hl with | [_, _], _ => rfl⟩,
    d_lead_of := ⟨_, _, fun_mk (st := s_lead_of) h2_lead_of h3_lead_of h4_lead_of, PySem.W.mg_of X G h1_lead_of, (fun_mk (st := s_lead_of) h2_lead_of h3_lead_of h4_lead_of).binds (ps := ["row"]) fun _ _ _ _ _ _ us hl => match us, hl with | [_], _ => rfl⟩,
    d_moved := ⟨_, _, fun_mk (st := s_moved) h2_moved h3_moved h4_moved, PySem.W.mg_of X G h1_moved, (fun_mk (st := s_moved) h2_moved h3_moved h4_moved).binds (ps := ["row", "part", "other"]) fun _ _ _ _ _ _ us hl => match us, hl with | [_, _, _], _ => rfl⟩,
    d__law_cell_at := ⟨_, _, fun_mk (st := s_law_cell_at) h2_law_cell_at h3_law_cell_at h4_law_cell_at, PySem.W.mg_of X G h1_law_cell_at, (fun_mk (st := s_law_cell_at) h2_law_cell_at h3_law_cell_at h4_law_cell_at).binds (ps := ["_law_script", "_law_k"]) fun _ _ _ _ _ _ us hl => match us, hl with | [_, _], _ => rfl⟩,
    d__law_whole := ⟨_, _, fun_mk (st := s_law_whole) h2_law_whole h3_law_whole h4_law_whole, PySem.W.mg_of X G h1_law_whole, (fun_mk (st := s_law_whole) h2_law_whole h3_law_whole h4_law_whole).binds (ps := ["_law_found"]) fun _ _ _ _ _ _ us hl => match us, hl with | [_], _ => rfl⟩,
    d__law_common := ⟨_, _, fun_mk (st := s_law_common) h2_law_common h3_law_common h4_law_common, PySem.W.mg_of X G h1_law_common, (fun_mk (st := s_law_common) h2_law_common h3_law_common h4_law_common).binds (ps := ["_law_one", "_law_other"]) fun _ _ _ _ _ _ us hl => match us, hl with | [_, _], _ => rfl⟩,
    d__law_share := ⟨_, _, fun_mk (st := s_law_share) h2_law_share h3_law_share h4_law_share, PySem.W.mg_of X G h1_law_share, (fun_mk (st := s_law_share) h2_law_share h3_law_share h4_law_share).binds (ps := ["_law_top", "_law_bottom"]) fun _ _ _ _ _ _ us hl => match us, hl with | [_, _], _ => rfl⟩,
    d__law_is := ⟨_, _, fun_mk (st := s_law_is) h2_law_is h3_law_is h4_law_is, PySem.W.mg_of X G h1_law_is, (fun_mk (st := s_law_is) h2_law_is h3_law_is h4_law_is).binds (ps := ["_law_found", "_law_due"]) fun _ _ _ _ _ _ us hl => match us, hl with | [_, _], _ => rfl⟩,
    d__law_word_of := ⟨_, _, fun_mk (st := s_law_word_of) h2_law_word_of h3_law_word_of h4_law_word_of, PySem.W.mg_of X G h1_law_word_of, (fun_mk (st := s_law_word_of) h2_law_word_of h3_law_word_of h4_law_word_of).binds (ps := ["_law_e"]) fun _ _ _ _ _ _ us hl => match us, hl with | [_], _ => rfl⟩,
    d__law_plus := ⟨_, _, fun_mk (st := s_law_plus) h2_law_plus h3_law_plus h4_law_plus, PySem.W.mg_of X G h1_law_plus, (fun_mk (st := s_law_plus) h2_law_plus h3_law_plus h4_law_plus).binds (ps := ["_law_one", "_law_other"]) fun _ _ _ _ _ _ us hl => match us, hl with | [_, _], _ => rfl⟩,
    d__law_times := ⟨_, _, fun_mk (st := s_law_times) h2_law_times h3_law_times h4_law_times, PySem.W.mg_of X G h1_law_times, (fun_mk (st := s_law_times) h2_law_times h3_law_times h4_law_times).binds (ps := ["_law_one", "_law_other"]) fun _ _ _ _ _ _ us hl => match us, hl with | [_, _], _ => rfl⟩,
    d__law_rank := ⟨_, _, fun_mk (st := s_law_rank) h2_law_rank h3_law_rank h4_law_rank, PySem.W.mg_of X G h1_law_rank, (fun_mk (st := s_law_rank) h2_law_rank h3_law_rank h4_law_rank).binds (ps := ["_law_rows"]) fun _ _ _ _ _ _ us hl => match us, hl with | [_], _ => rfl⟩,
    d__law_tops_by := ⟨_, _, fun_mk (st := s_law_tops_by) h2_law_tops_by h3_law_tops_by h4_law_tops_by, PySem.W.mg_of X G h1_law_tops_by, (fun_mk (st := s_law_tops_by) h2_law_tops_by h3_law_tops_by h4_law_tops_by).binds (ps := ["_law_cell", "_law_size", "_law_kept"]) fun _ _ _ _ _ _ us hl => match us, hl with | [_, _, _], _ => rfl⟩,
    d__law_told := ⟨_, _, fun_mk (st := s_law_told) h2_law_told h3_law_told h4_law_told, PySem.W.mg_of X G h1_law_told, (fun_mk (st := s_law_told) h2_law_told h3_law_told h4_law_told).binds (ps := ["_law_span", "_law_way", "_law_row"]) fun _ _ _ _ _ _ us hl => match us, hl with | [_, _, _], _ => rfl⟩,
    d__law_wrong := ⟨_, _, fun_mk (st := s_law_wrong) h2_law_wrong h3_law_wrong h4_law_wrong, PySem.W.mg_of X G h1_law_wrong, (fun_mk (st := s_law_wrong) h2_law_wrong h3_law_wrong h4_law_wrong).binds (ps := ["_law_cell", "_law_row"]) fun _ _ _ _ _ _ us hl => match us, hl with | [_, _], _ => rfl⟩,
    d__law_sums := ⟨_, _, fun_mk (st := s_law_sums) h2_law_sums h3_law_sums h4_law_sums, PySem.W.mg_of X G h1_law_sums, (fun_mk (st := s_law_sums) h2_law_sums h3_law_sums h4_law_sums).binds (ps := ["_law_parts", "_law_kept", "_law_size"]) fun _ _ _ _ _ _ us hl => match us, hl with | [_, _, _], _ => rfl⟩,
    d__law_tells_good := ⟨_, _, fun_mk (st := s_law_tells_good) h2_law_tells_good h3_law_tells_good h4_law_tells_good, PySem.W.mg_of X G h1_law_tells_good, (fun_mk (st := s_law_tells_good) h2_law_tells_good h3_law_tells_good h4_law_tells_good).binds (ps := ["_law_found", "_law_tops", "_law_row", "_law_own"]) fun _ _ _ _ _ _ us hl => match us, hl with | [_, _, _, _], _ => rfl⟩,
    d__law_deed := ⟨_, _, fun_mk (st := s_law_deed) h2_law_deed h3_law_deed h4_law_deed, PySem.W.mg_of X G h1_law_deed, (fun_mk (st := s_law_deed) h2_law_deed h3_law_deed h4_law_deed).binds (ps := ["_law_own", "_law_cell"]) fun _ _ _ _ _ _ us hl => match us, hl with | [_, _], _ => rfl⟩,
    d_law := ⟨_, _, fun_mk (st := s_law) h2_law h3_law h4_law, PySem.W.mg_of X G h1_law, (fun_mk (st := s_law) h2_law h3_law h4_law).binds (ps := ["_law_script"]) fun _ _ _ _ _ _ us hl => match us, hl with | [_], _ => rfl⟩,
    n_isinstance := PySem.W.mg_none_of X G n_isinstance,
    n_int := PySem.W.mg_none_of X G n_int,
    n_bool := PySem.W.mg_none_of X G n_bool,
    n_tuple := PySem.W.mg_none_of X G n_tuple,
    n_len := PySem.W.mg_none_of X G n_len,
    n_abs := PySem.W.mg_none_of X G n_abs,
    n_list := PySem.W.mg_none_of X G n_list,
    n_all := PySem.W.mg_none_of X G n_all,
    n_range := PySem.W.mg_none_of X G n_range,
    n_zip := PySem.W.mg_none_of X G n_zip,
    n_ValueError := PySem.W.mg_none_of X G n_ValueError,
    m_WeighError := PySem.W.mg_of X G m_WeighError,
    m_Nought := PySem.W.mg_of X G m_Nought,
    m_NoText := PySem.W.mg_of X G m_NoText,
    m_NoRow := PySem.W.mg_of X G m_NoRow,
    m_NoMachine := PySem.W.mg_of X G m_NoMachine,
    m_NoWord := PySem.W.mg_of X G m_NoWord,
    m_OtherSigns := PySem.W.mg_of X G m_OtherSigns,
    m_TooMany := PySem.W.mg_of X G m_TooMany,
    x_WeighError := x_WeighError,
    k_WeighError := k_WeighError,
    b_WeighError := b_WeighError,
    t_WeighError := t_WeighError,
    x_Nought := x_Nought,
    k_Nought := k_Nought,
    b_Nought := b_Nought,
    t_Nought := t_Nought,
    x_NoText := x_NoText,
    k_NoText := k_NoText,
    b_NoText := b_NoText,
    t_NoText := t_NoText,
    x_NoRow := x_NoRow,
    k_NoRow := k_NoRow,
    b_NoRow := b_NoRow,
    t_NoRow := t_NoRow,
    x_NoMachine := x_NoMachine,
    k_NoMachine := k_NoMachine,
    b_NoMachine := b_NoMachine,
    t_NoMachine := t_NoMachine,
    x_NoWord := x_NoWord,
    k_NoWord := k_NoWord,
    b_NoWord := b_NoWord,
    t_NoWord := t_NoWord,
    x_OtherSigns := x_OtherSigns,
    k_OtherSigns := k_OtherSigns,
    b_OtherSigns := b_OtherSigns,
    t_OtherSigns := t_OtherSigns,
    x_TooMany := x_TooMany,
    k_TooMany := k_TooMany,
    b_TooMany := b_TooMany,
    t_TooMany := t_TooMany,
    em_NoRow := PySem.W.exm_ref b_WeighError dc_WeighError t_WeighError s_NoRow_WeighError,
    ge_NoRow := ⟨g1_NoRow, g2_NoRow, b_NoRow, g4_NoRow, g5_NoRow, g6_NoRow, g7_NoRow, g8_NoRow⟩,
    is_NoRow_Nought := kit_other ne_NoRow_Nought ic_Nought t_Nought s_NoRow_Nought,
    is_NoRow_NoText := kit_other ne_NoRow_NoText ic_NoText t_NoText s_NoRow_NoText,
    is_NoRow_NoRow := kit_self,
    is_NoRow_NoMachine := kit_other ne_NoRow_NoMachine ic_NoMachine t_NoMachine s_NoRow_NoMachine,
    is_NoRow_NoWord := kit_other ne_NoRow_NoWord ic_NoWord t_NoWord s_NoRow_NoWord,
    is_NoRow_OtherSigns := kit_other ne_NoRow_OtherSigns ic_OtherSigns t_OtherSigns s_NoRow_OtherSigns,
    is_NoRow_TooMany := kit_other ne_NoRow_TooMany ic_TooMany t_TooMany s_NoRow_TooMany,
    iv_NoRow := kit_val sv_NoRow,
    m_Span := PySem.W.mg_of X G m_Span,
    cl_Span := ⟨pg_Span, hd_Span, po_Span, sa_Span⟩,
    ti_Span := ⟨⟨pg_Span, hd_Span, po_Span, sa_Span⟩, oc_Span, og_Span, ot_Span, om_Span⟩,
    na_Span_size := na_Span_size,
    na_Span_lines := na_Span_lines,
    i_Span := ⟨_, _, ⟨mk_Span, h5_SpanD_initD, h6_SpanD_initD, kc_Span⟩, fun_mk (st := s_SpanD_initD) h2_SpanD_initD h3_SpanD_initD h4_SpanD_initD, (fun_mk (st := s_SpanD_initD) h2_SpanD_initD h3_SpanD_initD h4_SpanD_initD).binds (ps := ["self", "size"]) fun _ _ _ _ _ _ us hl => match us, hl with | [_, _], _ => rfl⟩,
    d_Span_parted := ⟨_, _, ⟨h5_Span_parted, h6_Span_parted, h4_Span_parted⟩, fun_mk (st := s_Span_parted) h2_Span_parted h3_Span_parted h4_Span_parted, (fun_mk (st := s_Span_parted) h2_Span_parted h3_Span_parted h4_Span_parted).binds (ps := ["self", "row"]) fun _ _ _ _ _ _ us hl => match us, hl with | [_, _], _ => rfl⟩,
    d_Span_put := ⟨_, _, ⟨h5_Span_put, h6_Span_put, h4_Span_put⟩, fun_mk (st := s_Span_put) h2_Span_put h3_Span_put h4_Span_put, (fun_mk (st := s_Span_put) h2_Span_put h3_Span_put h4_Span_put).binds (ps := ["self", "row"]) fun _ _ _ _ _ _ us hl => match us, hl with | [_, _], _ => rfl⟩,
    d_Span_tells := ⟨_, _, ⟨h5_Span_tells, h6_Span_tells, h4_Span_tells⟩, fun_mk (st := s_Span_tells) h2_Span_tells h3_Span_tells h4_Span_tells, (fun_mk (st := s_Span_tells) h2_Span_tells h3_Span_tells h4_Span_tells).binds (ps := ["self", "row"]) fun _ _ _ _ _ _ us hl => match us, hl with | [_, _], _ => rfl⟩,
    d_Span_many := ⟨_, _, ⟨h5_Span_many, h6_Span_many, h4_Span_many⟩, fun_mk (st := s_Span_many) h2_Span_many h3_Span_many h4_Span_many, (fun_mk (st := s_Span_many) h2_Span_many h3_Span_many h4_Span_many).binds (ps := ["self"]) fun _ _ _ _ _ _ us hl => match us, hl with | [_], _ => rfl⟩,
    m_NONE := PySem.W.mg_of X G m_NONE,
    q_NONE := sqt_pair l_NONE,
    m_WHOLE := PySem.W.mg_of X G m_WHOLE,
    q_WHOLE := sqt_pair l_WHOLE }
  exact ⟨PySem.W.fnOf "law" "law" (defArgs s_law) (defBody s_law) (defScope s_law) .none kV_law dc_law pm_law an_law cd_law ct_law, fun s v => .of_eq rfl, fun base _ _ => ok_law T (fun_mk (st := s_law) h2_law h3_law h4_law)⟩
end Kx
open PySem PySem.W PyProof.Rows
set_option maxRecDepth 100000 in
set_option maxHeartbeats 0 in
theorem PySem.Challenge.cw_weighwords_k04_spans_holds : PySem.Challenge.rw_weighwords_k04_spans.Holds := by
  w_on; o_law; k_head; (case hw => w_witness2)
  k_fill
  refine L2.walk_ofB (l := PySem.Challenge.rw_weighwords_k04_spans) (n := 63) (k := 20) (x := "_law_script") (CX := fun _ => L2.CX0) (sp := fun w => DL.spLaw _) rfl (by decide) rfl ⟨rfl, by decide, by decide⟩ (fun w h Y => PySem.W.kIn_of Y) ?F (fun _ _ a ns hl hb _ hS => ⟨a, ns, rfl, hS, hl, hb, fun _ => rfl⟩) (fun _ _ _ _ _ h => h)
  case F =>
    intro w mg fa h KX G hmg
    refine' Kx.all_mk KX G hmg ?h1_is_whole ?h2_is_whole ?h3_is_whole ?h4_is_whole ?h1_divisor ?h2_divisor ?h3_divisor ?h4_divisor ?h1_is_share ?h2_is_share ?h3_is_share ?h4_is_share ?h1_share ?h2_share ?h3_share ?h4_share ?h1_plus ?h2_plus ?h3_plus ?h4_plus ?h1_less ?h2_less ?h3_less ?h4_less ?h1_times ?h2_times ?h3_times ?h4_times ?h1_over ?h2_over ?h3_over ?h4_over ?h1_is_row ?h2_is_row ?h3_is_row ?h4_is_row ?h1_lead_of ?h2_lead_of ?h3_lead_of ?h4_lead_of ?h1_moved ?h2_moved ?h3_moved ?h4_moved ?h1_law_cell_at ?h2_law_cell_at ?h3_law_cell_at ?h4_law_cell_at ?h1_law_whole ?h2_law_whole ?h3_law_whole ?h4_law_whole ?h1_law_common ?h2_law_common ?h3_law_common ?h4_law_common ?h1_law_share ?h2_law_share ?h3_law_share ?h4_law_share ?h1_law_is ?h2_law_is ?h3_law_is ?h4_law_is ?h1_law_word_of ?h2_law_word_of ?h3_law_word_of ?h4_law_word_of ?h1_law_plus ?h2_law_plus ?h3_law_plus ?h4_law_plus ?h1_law_times ?h2_law_times ?h3_law_times ?h4_law_times ?h1_law_rank ?h2_law_rank ?h3_law_rank ?h4_law_rank ?h1_law_tops_by ?h2_law_tops_by ?h3_law_tops_by ?h4_law_tops_by ?h1_law_told ?h2_law_told ?h3_law_told ?h4_law_told ?h1_law_wrong ?h2_law_wrong ?h3_law_wrong ?h4_law_wrong ?h1_law_sums ?h2_law_sums ?h3_law_sums ?h4_law_sums ?h1_law_tells_good ?h2_law_tells_good ?h3_law_tells_good ?h4_law_tells_good ?h1_law_deed ?h2_law_deed ?h3_law_deed ?h4_law_deed ?h1_law ?h2_law ?h3_law ?h4_law ?n_isinstance ?n_int ?n_bool ?n_tuple ?n_len ?n_abs ?n_list ?n_all ?n_range ?n_zip ?n_ValueError ?m_WeighError ?m_Nought ?m_NoText ?m_NoRow ?m_NoMachine ?m_NoWord ?m_OtherSigns ?m_TooMany ?x_WeighError ?k_WeighError ?b_WeighError ?t_WeighError ?x_Nought ?k_Nought ?b_Nought ?t_Nought ?x_NoText ?k_NoText ?b_NoText ?t_NoText ?x_NoRow ?k_NoRow ?b_NoRow ?t_NoRow ?x_NoMachine ?k_NoMachine ?b_NoMachine ?t_NoMachine ?x_NoWord ?k_NoWord ?b_NoWord ?t_NoWord ?x_OtherSigns ?k_OtherSigns ?b_OtherSigns ?t_OtherSigns ?x_TooMany ?k_TooMany ?b_TooMany ?t_TooMany ?dc_WeighError ?s_NoRow_WeighError ?g1_NoRow ?g2_NoRow ?g4_NoRow ?g5_NoRow ?g6_NoRow ?g7_NoRow ?g8_NoRow ?ic_Nought ?ne_NoRow_Nought ?s_NoRow_Nought ?ic_NoText ?ne_NoRow_NoText ?s_NoRow_NoText ?ic_NoMachine ?ne_NoRow_NoMachine ?s_NoRow_NoMachine ?ic_NoWord ?ne_NoRow_NoWord ?s_NoRow_NoWord ?ic_OtherSigns ?ne_NoRow_OtherSigns ?s_NoRow_OtherSigns ?ic_TooMany ?ne_NoRow_TooMany ?s_NoRow_TooMany ?sv_NoRow ?m_Span ?pg_Span ?hd_Span ?po_Span ?sa_Span ?oc_Span ?og_Span ?ot_Span ?om_Span ?na_Span_size ?na_Span_lines ?h5_SpanD_initD ?h6_SpanD_initD ?mk_Span ?kc_Span ?h5_Span_parted ?h6_Span_parted ?h5_Span_put ?h6_Span_put ?h5_Span_tells ?h6_Span_tells ?h5_Span_many ?h6_Span_many ?m_NONE ?l_NONE ?m_WHOLE ?l_WHOLE ?h2_SpanD_initD ?h3_SpanD_initD ?h4_SpanD_initD ?h2_Span_parted ?h3_Span_parted ?h4_Span_parted ?h2_Span_put ?h3_Span_put ?h4_Span_put ?h2_Span_tells ?h3_Span_tells ?h4_Span_tells ?h2_Span_many ?h3_Span_many ?h4_Span_many
    (case h1_is_whole => k_is)
    (case h2_is_whole => k_is)
    (case h3_is_whole => k_is)
    (case h4_is_whole => k_is)
    (case h1_divisor => k_is)
    (case h2_divisor => k_is)
    (case h3_divisor => k_is)
    (case h4_divisor => k_is)
    (case h1_is_share => k_is)
    (case h2_is_share => k_is)
    (case h3_is_share => k_is)
    (case h4_is_share => k_is)
    (case h1_share => k_is)
    (case h2_share => k_is)
    (case h3_share => k_is)
    (case h4_share => k_is)
    (case h1_plus => k_is)
    (case h2_plus => k_is)
    (case h3_plus => k_is)
    (case h4_plus => k_is)
    (case h1_less => k_is)
    (case h2_less => k_is)
    (case h3_less => k_is)
    (case h4_less => k_is)
    (case h1_times => k_is)
    (case h2_times => k_is)
    (case h3_times => k_is)
    (case h4_times => k_is)
    (case h1_over => k_is)
    (case h2_over => k_is)
    (case h3_over => k_is)
    (case h4_over => k_is)
    (case h1_is_row => k_is)
    (case h2_is_row => k_is)
    (case h3_is_row => k_is)
    (case h4_is_row => k_is)
    (case h1_lead_of => k_is)
    (case h2_lead_of => k_is)
    (case h3_lead_of => k_is)
    (case h4_lead_of => k_is)
    (case h1_moved => k_is)
    (case h2_moved => k_is)
    (case h3_moved => k_is)
    (case h4_moved => k_is)
    (case h1_law_cell_at => k_is)
    (case h2_law_cell_at => k_is)
    (case h3_law_cell_at => k_is)
    (case h4_law_cell_at => k_is)
    (case h1_law_whole => k_is)
    (case h2_law_whole => k_is)
    (case h3_law_whole => k_is)
    (case h4_law_whole => k_is)
    (case h1_law_common => k_is)
    (case h2_law_common => k_is)
    (case h3_law_common => k_is)
    (case h4_law_common => k_is)
    (case h1_law_share => k_is)
    (case h2_law_share => k_is)
    (case h3_law_share => k_is)
    (case h4_law_share => k_is)
    (case h1_law_is => k_is)
    (case h2_law_is => k_is)
    (case h3_law_is => k_is)
    (case h4_law_is => k_is)
    (case h1_law_word_of => k_is)
    (case h2_law_word_of => k_is)
    (case h3_law_word_of => k_is)
    (case h4_law_word_of => k_is)
    (case h1_law_plus => k_is)
    (case h2_law_plus => k_is)
    (case h3_law_plus => k_is)
    (case h4_law_plus => k_is)
    (case h1_law_times => k_is)
    (case h2_law_times => k_is)
    (case h3_law_times => k_is)
    (case h4_law_times => k_is)
    (case h1_law_rank => k_is)
    (case h2_law_rank => k_is)
    (case h3_law_rank => k_is)
    (case h4_law_rank => k_is)
    (case h1_law_tops_by => k_is)
    (case h2_law_tops_by => k_is)
    (case h3_law_tops_by => k_is)
    (case h4_law_tops_by => k_is)
    (case h1_law_told => k_is)
    (case h2_law_told => k_is)
    (case h3_law_told => k_is)
    (case h4_law_told => k_is)
    (case h1_law_wrong => k_is)
    (case h2_law_wrong => k_is)
    (case h3_law_wrong => k_is)
    (case h4_law_wrong => k_is)
    (case h1_law_sums => k_is)
    (case h2_law_sums => k_is)
    (case h3_law_sums => k_is)
    (case h4_law_sums => k_is)
    (case h1_law_tells_good => k_is)
    (case h2_law_tells_good => k_is)
    (case h3_law_tells_good => k_is)
    (case h4_law_tells_good => k_is)
    (case h1_law_deed => k_is)
    (case h2_law_deed => k_is)
    (case h3_law_deed => k_is)
    (case h4_law_deed => k_is)
    (case h1_law => k_is)
    (case h2_law => k_is)
    (case h3_law => k_is)
    (case h4_law => k_is)
    (case n_isinstance => k_is)
    (case n_int => k_is)
    (case n_bool => k_is)
    (case n_tuple => k_is)
    (case n_len => k_is)
    (case n_abs => k_is)
    (case n_list => k_is)
    (case n_all => k_is)
    (case n_range => k_is)
    (case n_zip => k_is)
    (case n_ValueError => k_is)
    (case m_WeighError => k_is)
    (case m_Nought => k_is)
    (case m_NoText => k_is)
    (case m_NoRow => k_is)
    (case m_NoMachine => k_is)
    (case m_NoWord => k_is)
    (case m_OtherSigns => k_is)
    (case m_TooMany => k_is)
    (case x_WeighError => k_exc)
    (case k_WeighError => k_is)
    (case b_WeighError => k_is)
    (case t_WeighError => k_is)
    (case x_Nought => k_exc)
    (case k_Nought => k_is)
    (case b_Nought => k_is)
    (case t_Nought => k_is)
    (case x_NoText => k_exc)
    (case k_NoText => k_is)
    (case b_NoText => k_is)
    (case t_NoText => k_is)
    (case x_NoRow => k_exc)
    (case k_NoRow => k_is)
    (case b_NoRow => k_is)
    (case t_NoRow => k_is)
    (case x_NoMachine => k_exc)
    (case k_NoMachine => k_is)
    (case b_NoMachine => k_is)
    (case t_NoMachine => k_is)
    (case x_NoWord => k_exc)
    (case k_NoWord => k_is)
    (case b_NoWord => k_is)
    (case t_NoWord => k_is)
    (case x_OtherSigns => k_exc)
    (case k_OtherSigns => k_is)
    (case b_OtherSigns => k_is)
    (case t_OtherSigns => k_is)
    (case x_TooMany => k_exc)
    (case k_TooMany => k_is)
    (case b_TooMany => k_is)
    (case t_TooMany => k_is)
    (case dc_WeighError => k_is)
    (case s_NoRow_WeighError => k_is)
    (case g1_NoRow => k_is)
    (case g2_NoRow => k_is)
    (case g4_NoRow => k_is)
    (case g5_NoRow => k_is)
    (case g6_NoRow => k_is)
    (case g7_NoRow => k_is)
    (case g8_NoRow => k_is)
    (case ic_Nought => k_is)
    (case ne_NoRow_Nought => decide)
    (case s_NoRow_Nought => k_is)
    (case ic_NoText => k_is)
    (case ne_NoRow_NoText => decide)
    (case s_NoRow_NoText => k_is)
    (case ic_NoMachine => k_is)
    (case ne_NoRow_NoMachine => decide)
    (case s_NoRow_NoMachine => k_is)
    (case ic_NoWord => k_is)
    (case ne_NoRow_NoWord => decide)
    (case s_NoRow_NoWord => k_is)
    (case ic_OtherSigns => k_is)
    (case ne_NoRow_OtherSigns => decide)
    (case s_NoRow_OtherSigns => k_is)
    (case ic_TooMany => k_is)
    (case ne_NoRow_TooMany => decide)
    (case s_NoRow_TooMany => k_is)
    (case sv_NoRow => k_is)
    (case m_Span => k_is)
    (case pg_Span => k_is)
    (case hd_Span => k_is)
    (case po_Span => k_is)
    (case sa_Span => k_is)
    (case oc_Span => k_is)
    (case og_Span => k_is)
    (case ot_Span => k_is)
    (case om_Span => k_is)
    (case na_Span_size => k_is)
    (case na_Span_lines => k_is)
    (case h5_SpanD_initD => k_is)
    (case h6_SpanD_initD => k_is)
    (case mk_Span => k_is)
    (case kc_Span => k_is)
    (case h5_Span_parted => k_is)
    (case h6_Span_parted => k_is)
    (case h5_Span_put => k_is)
    (case h6_Span_put => k_is)
    (case h5_Span_tells => k_is)
    (case h6_Span_tells => k_is)
    (case h5_Span_many => k_is)
    (case h6_Span_many => k_is)
    (case m_NONE => k_is)
    (case l_NONE => k_is)
    (case m_WHOLE => k_is)
    (case l_WHOLE => k_is)
    (case h2_SpanD_initD => k_is)
    (case h3_SpanD_initD => k_is)
    (case h4_SpanD_initD => k_is)
    (case h2_Span_parted => k_is)
    (case h3_Span_parted => k_is)
    (case h4_Span_parted => k_is)
    (case h2_Span_put => k_is)
    (case h3_Span_put => k_is)
    (case h4_Span_put => k_is)
    (case h2_Span_tells => k_is)
    (case h3_Span_tells => k_is)
    (case h4_Span_tells => k_is)
    (case h2_Span_many => k_is)
    (case h3_Span_many => k_is)
    (case h4_Span_many => k_is)

