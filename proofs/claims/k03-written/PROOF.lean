import PyProof.Rows.All
import Wide.All
import OpenK.AllK
import Wide.FinOn
import HandS.ForMost
import HandS.Exc
import HandS.TryOnly
import HandS.ExcOwn
import HandS.WordsExc
import HandS.IsInst
import HandS.Wide
import HandS.Walk
import HandS.Style
import HandS.ExcIs
import HandS.HotCalls
import HandS.EndBits
import HandS.StrMore
import PyProof.ReprRoads
import KE.KRevSl
import PyProof.StrWalks
import KE.KDictList
import HandS.Iter
import HandS.Conv
import HandS.Codes
import PyProof.StrBlock2
import PyProof.Rows.RegReprOcc
import PyProof.Rows.StrPins2
import KE.IntTextText
import PySem.Challenge.RW_weighwords_k03_written
set_option Elab.async false
set_option linter.all false
set_option maxRecDepth 100000
set_option maxHeartbeats 1000000
namespace DL
open PySem L2

/-! ### heaps: a frozen part F below the whole H -/
theorem same_upd {H : Hp} {p : Addr} {o : HO} (h : H p = none) : Same H (upd H p o) := fun b x e => by
  rw [upd_ne (ne_of_none e h)]
  exact e
structure Gr (F H F' H' : Hp) : Prop where
  f : Same F F'
  s : Same F' H'
  h : Same H H'
  n : ∀ a, F a = none → H a ≠ none → F' a = none
section
variable {F H F1 H1 F2 H2 : Hp} {p : Addr} {o : HO}
theorem Gr.refl (s : Same F H) : Gr F H F H := ⟨Same.refl F, s, Same.refl H, fun _ h _ => h⟩
theorem some_ne {H H' : Hp} (e : Same H H') {a : Addr} (h : H a ≠ none) : H' a ≠ none := by
  cases q : H a with
  | none => exact absurd q h
  | some o => rw [e a o q]; exact fun z => nomatch z
theorem Gr.trans (a : Gr F H F1 H1) (b : Gr F1 H1 F2 H2) : Gr F H F2 H2 :=
  ⟨a.f.trans b.f, b.s, a.h.trans b.h, fun x h1 h2 => b.n x (a.n x h1 h2) (some_ne a.h h2)⟩
/-- a new object, frozen at once -/
theorem Gr.new (s : Same F H) (hp : H p = none) : Gr F H (upd F p o) (upd H p o) := by
  have fp : F p = none := s.free hp
  refine ⟨same_upd fp, fun a u e => ?_, same_upd hp, fun a h1 h2 => ?_⟩
  · by_cases ha : a = p
    · subst ha; rw [upd_same] at e; rw [upd_same]; exact e
    · rw [upd_ne ha] at e; rw [upd_ne ha]; exact s a u e
  · have ha : a ≠ p := fun z => h2 (by rw [z]; exact hp)
    rw [upd_ne ha]; exact h1
/-- a new object, not frozen -/
theorem Gr.newO (s : Same F H) (hp : H p = none) : Gr F H F (upd H p o) :=
  ⟨Same.refl F, fun a u e => by rw [upd_ne (ne_of_none (s a u e) hp)]; exact s a u e, same_upd hp, fun _ h _ => h⟩
/-- a new object in the whole stays out of what grows -/
theorem Gr.out (g : Gr F H F1 H1) (h1 : F p = none) (h2 : H p = some o) : F1 p = none ∧ H1 p = some o :=
  ⟨g.n p h1 (by rw [h2]; exact fun z => nomatch z), g.h p o h2⟩
end

/-! ### data -/
inductive D where
  | non | bl (b : Bool) | int (i : Int) | str (x : Str) | lst (ds : List D) | tup (ds : List D) | dct | scr (ns : List Int) | adr (a : Addr) | ty (n : String) | ins (C : Addr) (fs : List (Str × D))
mutual
inductive Rp (K : PySem.W.Frag) (H : Hp) : V → D → Prop
  | non : Rp K H .non .non
  | bl (b : Bool) : Rp K H (.bl b) (.bl b)
  | int (i : Int) : Rp K H (.int i) (.int i)
  | str (x : Str) : Rp K H (.str x) (.str x)
  | lst {a : Addr} {xs : List V} {ds : List D} : H a = some (.lst xs) → RpA K H xs ds → Rp K H (.ref a) (.lst ds)
  | tup {a : Addr} {xs : List V} {ds : List D} : SqT K H a xs → RpA K H xs ds → Rp K H (.ref a) (.tup ds)
  | dct {a : Addr} : H a = some (.dK []) → Rp K H (.ref a) .dct
  | scr {a : Addr} {ns : List Int} : SqL K H a (ns.map V.int) → Rp K H (.ref a) (.scr ns)
  | adr (a : Addr) : Rp K H (.ref a) (.adr a)
  | ty (n : String) : Rp K H (.ty n) (.ty n)
  | ins {a C dx : Addr} {fs : List (Str × V)} {gs : List (Str × D)} : H a = some (.ins C dx fs) → RpF K H fs gs → Rp K H (.ref a) (.ins C gs)
inductive RpA (K : PySem.W.Frag) (H : Hp) : List V → List D → Prop
  | nil : RpA K H [] []
  | cons {v : V} {vs : List V} {d : D} {ds : List D} : Rp K H v d → RpA K H vs ds → RpA K H (v :: vs) (d :: ds)
inductive RpF (K : PySem.W.Frag) (H : Hp) : List (Str × V) → List (Str × D) → Prop
  | nil : RpF K H [] []
  | cons {f : Str} {v : V} {vs : List (Str × V)} {d : D} {ds : List (Str × D)} : Rp K H v d → RpF K H vs ds → RpF K H ((f, v) :: vs) ((f, d) :: ds)
end
theorem sqt_mono {K : PySem.W.Frag} {H H' : Hp} {a : Addr} {xs : List V} (e : Same H H') (h : SqT K H a xs) : SqT K H' a xs := by
  rcases h with (h | ⟨o, h⟩) | h
  · exact .inl (.inl (e _ _ h))
  · exact .inl (.inr ⟨o, e _ _ h⟩)
  · exact .inr h
section
variable {K : PySem.W.Frag} {H H' : Hp}
mutual
theorem Rp.mono (e : Same H H') : ∀ {v : V} {d : D}, Rp K H v d → Rp K H' v d
  | _, _, .non => .non
  | _, _, .bl b => .bl b
  | _, _, .int i => .int i
  | _, _, .str x => .str x
  | _, _, .lst h a => .lst (e _ _ h) (RpA.mono e a)
  | _, _, .tup h a => .tup (sqt_mono e h) (RpA.mono e a)
  | _, _, .dct h => .dct (e _ _ h)
  | _, _, .scr h => .scr (e.seq h)
  | _, _, .adr a => .adr a
  | _, _, .ty n => .ty n
  | _, _, .ins h a => .ins (e _ _ h) (RpF.mono e a)
theorem RpA.mono (e : Same H H') : ∀ {vs : List V} {ds : List D}, RpA K H vs ds → RpA K H' vs ds
  | _, _, .nil => .nil
  | _, _, .cons h t => .cons (Rp.mono e h) (RpA.mono e t)
theorem RpF.mono (e : Same H H') : ∀ {vs : List (Str × V)} {ds : List (Str × D)}, RpF K H vs ds → RpF K H' vs ds
  | _, _, .nil => .nil
  | _, _, .cons h t => .cons (Rp.mono e h) (RpF.mono e t)
end
theorem RpA.len : ∀ {vs : List V} {ds : List D}, RpA K H vs ds → vs.length = ds.length
  | _, _, .nil => rfl
  | _, _, .cons _ t => congrArg Nat.succ (RpA.len t)
theorem RpA.get : ∀ {vs : List V} {ds : List D} {i : Nat} {d : D}, RpA K H vs ds → ds[i]? = some d → ∃ v, vs[i]? = some v ∧ Rp K H v d
  | _, _, _, _, .nil, e => by simp at e
  | _, _, 0, _, .cons h _, e => by
    simp at e
    subst e
    exact ⟨_, rfl, h⟩
  | _, _, i + 1, d, .cons _ t, e => by
    obtain ⟨v, h1, h2⟩ := RpA.get (i := i) (d := d) t (by simpa using e)
    exact ⟨v, by simpa using h1, h2⟩
theorem RpA.getV : ∀ {vs : List V} {ds : List D} {i : Nat} {v : V}, RpA K H vs ds → vs[i]? = some v → ∃ d, ds[i]? = some d ∧ Rp K H v d
  | _, _, _, _, .nil, e => by simp at e
  | _, _, 0, _, .cons h _, e => by
    simp at e
    subst e
    exact ⟨_, rfl, h⟩
  | _, _, i + 1, d, .cons _ t, e => by
    obtain ⟨v, h1, h2⟩ := RpA.getV (i := i) t (by simpa using e)
    exact ⟨v, by simpa using h1, h2⟩
theorem RpA.append : ∀ {vs ws : List V} {ds es : List D}, RpA K H vs ds → RpA K H ws es → RpA K H (vs ++ ws) (ds ++ es)
  | _, _, _, _, .nil, t => t
  | _, _, _, _, .cons h t, u => .cons h (RpA.append t u)
theorem RpA.one {v : V} {d : D} (h : Rp K H v d) : RpA K H [v] [d] := .cons h .nil
theorem RpA.take (n : Nat) : ∀ {vs : List V} {ds : List D}, RpA K H vs ds → RpA K H (vs.take n) (ds.take n) := by
  induction n with
  | zero => intro vs ds h; exact .nil
  | succ n ih =>
    intro vs ds h
    cases h with
    | nil => exact .nil
    | cons h t => exact .cons h (ih t)
theorem RpA.drop (n : Nat) : ∀ {vs : List V} {ds : List D}, RpA K H vs ds → RpA K H (vs.drop n) (ds.drop n) := by
  induction n with
  | zero => intro vs ds h; exact h
  | succ n ih =>
    intro vs ds h
    cases h with
    | nil => exact .nil
    | cons h t => exact ih t
theorem RpA.reverse : ∀ {vs : List V} {ds : List D}, RpA K H vs ds → RpA K H vs.reverse ds.reverse
  | _, _, .nil => .nil
  | _, _, .cons h t => by rw [List.reverse_cons, List.reverse_cons]; exact (RpA.reverse t).append (.one h)
theorem RpA.ints : ∀ {vs : List V} {ns : List Int}, RpA K H vs (ns.map D.int) → vs = ns.map V.int
  | _, [], .nil => rfl
  | _, _ :: _, .cons (.int _) t => by rw [RpA.ints t]; rfl
theorem RpA.ofInts (ns : List Int) : RpA K H (ns.map V.int) (ns.map D.int) := by
  induction ns with
  | nil => exact .nil
  | cons n r ih => exact .cons (.int n) ih
theorem RpA.bls : ∀ {vs : List V} {ns : List Bool}, RpA K H vs (ns.map D.bl) → vs = ns.map V.bl
  | _, [], .nil => rfl
  | _, _ :: _, .cons (.bl _) t => by rw [RpA.bls t]; rfl
theorem RpA.strs : ∀ {vs : List V} {ns : List Str}, RpA K H vs (ns.map D.str) → vs = ns.map V.str
  | _, [], .nil => rfl
  | _, _ :: _, .cons (.str _) t => by rw [RpA.strs t]; rfl
theorem RpA.ofStrs (ns : List Str) : RpA K H (ns.map V.str) (ns.map D.str) := by
  induction ns with
  | nil => exact .nil
  | cons n r ih => exact .cons (.str n) ih
theorem RpA.rep {vs : List V} {ds : List D} (h : RpA K H vs ds) (n : Nat) : RpA K H (List.replicate n vs).flatten (List.replicate n ds).flatten := by
  induction n with
  | zero => exact .nil
  | succ n ih =>
    rw [List.replicate_succ, List.replicate_succ, List.flatten_cons, List.flatten_cons]
    exact h.append ih
theorem RpF.look {f : Str} {d : D} : ∀ {vs : List (Str × V)} {ds : List (Str × D)}, RpF K H vs ds → ds.lookup f = some d → ∃ v, vs.lookup f = some v ∧ Rp K H v d
  | _, _, .nil, e => by simp at e
  | (g, v) :: vs, (_, d') :: ds, .cons h t, e => by
    by_cases hg : (f == g) = true
    · simp only [List.lookup, hg] at e ⊢
      cases e
      exact ⟨v, rfl, h⟩
    · have hg' : (f == g) = false := by simpa using hg
      simp only [List.lookup, hg'] at e ⊢
      exact RpF.look t e
theorem RpF.lookNone {f : Str} : ∀ {vs : List (Str × V)} {ds : List (Str × D)}, RpF K H vs ds → ds.lookup f = none → vs.lookup f = none
  | _, _, .nil, e => rfl
  | (g, v) :: vs, (_, d') :: ds, .cons h t, e => by
    by_cases hg : (f == g) = true
    · simp only [List.lookup, hg] at e
      cases e
    · have hg' : (f == g) = false := by simpa using hg
      simp only [List.lookup, hg'] at e ⊢
      exact RpF.lookNone t e
end

/-! ### slots -/
/-- what a slot owns: a list, an instance -/
inductive Ow where
  | lst (ds : List D) | ins (q : Option Addr) (C : Addr) (gs : List (Str × D))
def Ow.toD : Ow → D
  | .lst ds => .lst ds
  | .ins _ C gs => .ins C gs
/-- where it stands, if that is told -/
def Ow.at : Ow → Addr → Prop
  | .ins (some q) _ _, p => q = p
  | _, _ => True
inductive RpO (K : PySem.W.Frag) (F : Hp) : HO → Ow → Prop
  | lst {vs : List V} {ds : List D} : RpA K F vs ds → RpO K F (.lst vs) (.lst ds)
  | ins {q : Option Addr} {C dx : Addr} {fs : List (Str × V)} {gs : List (Str × D)} : RpF K F fs gs → RpO K F (.ins C dx fs) (.ins q C gs)
theorem RpO.mono {K : PySem.W.Frag} {H H' : Hp} {h : HO} {o : Ow} (e : Same H H') (r : RpO K H h o) : RpO K H' h o := by
  cases r with
  | lst r => exact .lst (r.mono e)
  | ins r => exact .ins (r.mono e)
theorem RpO.rp {K : PySem.W.Frag} {F : Hp} {p : Addr} {h : HO} {o : Ow} (hp : F p = some h) (r : RpO K F h o) : Rp K F (.ref p) o.toD := by
  cases r with
  | lst r => exact .lst hp r
  | ins r => exact .ins hp r
inductive Sl where
  | no | fz (d : D) | own (o : Ow)
abbrev Sl.ow (ds : List D) : Sl := .own (.lst ds)
abbrev Sl.ob (q : Option Addr) (C : Addr) (gs : List (Str × D)) : Sl := .own (.ins q C gs)
abbrev Gam := List Sl
structure Ok (K : PySem.W.Frag) (F0 H0 F H : Hp) (σ : L2.St) (Γ : Gam) : Prop where
  g : Gr F0 H0 F H
  len : σ.length = Γ.length
  fz : ∀ (i : Nat) (d : D), Γ[i]? = some (.fz d) → ∃ v, σ[i]? = some (some v) ∧ Rp K F v d
  ow : ∀ (i : Nat) (o : Ow), Γ[i]? = some (.own o) → ∃ p h, σ[i]? = some (some (.ref p)) ∧ H p = some h ∧ F p = none ∧ H0 p = none ∧ RpO K F h o ∧ o.at p
  ap : ∀ (i j : Nat) (ds es : Ow) (p : Addr), i ≠ j → Γ[i]? = some (.own ds) → Γ[j]? = some (.own es) → σ[i]? = some (some (.ref p)) → σ[j]? ≠ some (some (.ref p))
section
variable {K : PySem.W.Frag} {F0 H0 F H F1 H1 : Hp} {σ : L2.St} {Γ : Gam}
theorem Ok.grow (o : Ok K F0 H0 F H σ Γ) (g : Gr F H F1 H1) : Ok K F0 H0 F1 H1 σ Γ :=
  ⟨o.g.trans g, o.len, fun i d h => by
    obtain ⟨v, h1, h2⟩ := o.fz i d h
    exact ⟨v, h1, h2.mono g.f⟩, fun i ds h => by
    obtain ⟨p, vs, h1, h2, h3, h4, h5, h6⟩ := o.ow i ds h
    obtain ⟨a, b⟩ := g.out h3 h2
    exact ⟨p, vs, h1, b, a, h4, h5.mono g.f, h6⟩, o.ap⟩
theorem set_get {α : Type} {l : List α} {i j : Nat} {x y : α} (h : (l.set i x)[j]? = some y) : (i = j ∧ y = x) ∨ (i ≠ j ∧ l[j]? = some y) := by
  by_cases e : i = j
  · subst e
    by_cases hl : i < l.length
    · rw [List.getElem?_set_self hl] at h
      exact .inl ⟨rfl, (Option.some.inj h).symm⟩
    · rw [List.getElem?_eq_none (by simpa using hl)] at h
      cases h
  · rw [List.getElem?_set_ne e] at h
    exact .inr ⟨e, h⟩
theorem set_at {α β : Type} {l : List α} {m : List β} (e : l.length = m.length) {i : Nat} {x : α} {y z : β} (h : (m.set i y)[i]? = some z) : (l.set i x)[i]? = some x := by
  have hl : i < m.length := by
    by_cases hl : i < m.length
    · exact hl
    · rw [List.getElem?_eq_none (by simpa using hl)] at h
      cases h
  exact List.getElem?_set_self (by omega)
/-- a slot takes a frozen value -/
theorem Ok.set (o : Ok K F0 H0 F H σ Γ) {i : Nat} {v : V} {d : D} (r : Rp K F v d) : Ok K F0 H0 F H (σ.set i (some v)) (Γ.set i (.fz d)) := by
  refine ⟨o.g, by simpa using o.len, fun j e h => ?_, fun j ds h => ?_, fun j k ds es p hjk h1 h2 h3 h4 => ?_⟩
  · rcases set_get h with ⟨rfl, q⟩ | ⟨n, q⟩
    · cases q
      exact ⟨v, set_at o.len h, r⟩
    · rw [List.getElem?_set_ne n]
      exact o.fz j e q
  · rcases set_get h with ⟨rfl, q⟩ | ⟨n, q⟩
    · cases q
    · rw [List.getElem?_set_ne n]
      exact o.ow j ds q
  · rcases set_get h1 with ⟨rfl, q⟩ | ⟨n1, q1⟩
    · cases q
    · rcases set_get h2 with ⟨rfl, q⟩ | ⟨n2, q2⟩
      · cases q
      · rw [List.getElem?_set_ne n1] at h3
        rw [List.getElem?_set_ne n2] at h4
        exact o.ap j k ds es p hjk q1 q2 h3 h4
/-- what stands in a slot is forgotten -/
theorem Ok.no (o : Ok K F0 H0 F H σ Γ) (i : Nat) (x : Option V) : Ok K F0 H0 F H (σ.set i x) (Γ.set i .no) := by
  refine ⟨o.g, by simpa using o.len, fun j e h => ?_, fun j ds h => ?_, fun j k ds es p hjk h1 h2 h3 h4 => ?_⟩
  · rcases set_get h with ⟨rfl, q⟩ | ⟨n, q⟩
    · cases q
    · rw [List.getElem?_set_ne n]
      exact o.fz j e q
  · rcases set_get h with ⟨rfl, q⟩ | ⟨n, q⟩
    · cases q
    · rw [List.getElem?_set_ne n]
      exact o.ow j ds q
  · rcases set_get h1 with ⟨rfl, q⟩ | ⟨n1, q1⟩
    · cases q
    · rcases set_get h2 with ⟨rfl, q⟩ | ⟨n2, q2⟩
      · cases q
      · rw [List.getElem?_set_ne n1] at h3
        rw [List.getElem?_set_ne n2] at h4
        exact o.ap j k ds es p hjk q1 q2 h3 h4
/-- Γ tells less -/
def Le (Γ Γ' : Gam) : Prop := Γ.length = Γ'.length ∧ ∀ (i : Nat) (s : Sl), Γ'[i]? = some s → s = .no ∨ Γ[i]? = some s
theorem Ok.le {Γ' : Gam} (o : Ok K F0 H0 F H σ Γ) (l : Le Γ Γ') : Ok K F0 H0 F H σ Γ' := by
  refine ⟨o.g, o.len.trans l.1, fun i d h => ?_, fun i ds h => ?_, fun i j ds es p hij h1 h2 => ?_⟩
  · rcases l.2 i _ h with q | q
    · cases q
    · exact o.fz i d q
  · rcases l.2 i _ h with q | q
    · cases q
    · exact o.ow i ds q
  · rcases l.2 i _ h1 with q | q
    · cases q
    · rcases l.2 j _ h2 with q2 | q2
      · cases q2
      · exact o.ap i j ds es p hij q q2
theorem Le.refl (Γ : Gam) : Le Γ Γ := ⟨rfl, fun _ _ h => .inr h⟩
theorem Le.cons {s s' : Sl} {Γ Γ' : Gam} (h : s' = .no ∨ s = s') (l : Le Γ Γ') : Le (s :: Γ) (s' :: Γ') := by
  refine ⟨by simp [l.1], fun i x e => ?_⟩
  cases i with
  | zero =>
    simp at e
    subst e
    rcases h with h | h
    · exact .inl h
    · exact .inr (by simp [h])
  | succ i => exact (l.2 i x (by simpa using e)).imp id fun q => by simpa using q
theorem Le.nil : Le [] [] := Le.refl _
theorem Le.trans {Γ Γ' Γ'' : Gam} (a : Le Γ Γ') (b : Le Γ' Γ'') : Le Γ Γ'' := ⟨a.1.trans b.1, fun i s h => by
  rcases b.2 i s h with q | q
  · exact .inl q
  · exact a.2 i s q⟩
/-- a new list, owned -/
theorem Ok.setOw (o : Ok K F0 H0 F H σ Γ) {i : Nat} {p : Addr} {h : HO} {ds : Ow} (hp : H p = none) (r : RpO K F h ds) (ha : ds.at p) : Ok K F0 H0 F (upd H p h) (σ.set i (some (.ref p))) (Γ.set i (.own ds)) := by
  have g := Gr.newO (o := h) o.g.s hp
  have o2 := o.grow g
  have h0 : H0 p = none := o.g.h.free hp
  have nf : F p = none := o.g.s.free hp
  have old : ∀ (j : Nat) (es : Ow) (q : Addr), Γ[j]? = some (.own es) → σ[j]? = some (some (.ref q)) → q ≠ p := fun j es q h1 h2 => by
    obtain ⟨q', ws, a, b, _⟩ := o.ow j es h1
    rw [h2] at a
    cases a
    exact ne_of_none b hp
  refine ⟨o2.g, by simpa using o.len, fun j e h' => ?_, fun j es h' => ?_, fun j k es fs q hjk h1 h2 h3 h4 => ?_⟩
  · rcases set_get h' with ⟨rfl, q⟩ | ⟨n, q⟩
    · cases q
    · rw [List.getElem?_set_ne n]
      exact o2.fz j e q
  · rcases set_get h' with ⟨rfl, q⟩ | ⟨n, q⟩
    · cases q
      exact ⟨p, _, set_at o.len h', upd_same, nf, h0, r, ha⟩
    · rw [List.getElem?_set_ne n]
      exact o2.ow j es q
  · rcases set_get h1 with ⟨e1, x1⟩ | ⟨n1, q1⟩
    · subst e1
      rw [set_at o.len h1] at h3
      cases h3
      rcases set_get h2 with ⟨e2, _⟩ | ⟨n2, q2⟩
      · exact hjk e2
      · rw [List.getElem?_set_ne n2] at h4
        exact old k fs p q2 h4 rfl
    · rw [List.getElem?_set_ne n1] at h3
      rcases set_get h2 with ⟨e2, x2⟩ | ⟨n2, q2⟩
      · subst e2
        rw [set_at o.len h2] at h4
        cases h4
        exact old j es p q1 h3 rfl
      · rw [List.getElem?_set_ne n2] at h4
        exact o.ap j k es fs q hjk q1 q2 h3 h4
/-- an owned list changes -/
theorem Ok.upOw (o : Ok K F0 H0 F H σ Γ) {i : Nat} {p : Addr} {ds : Ow} {ws : HO} {es : Ow} (hi : Γ[i]? = some (.own ds)) (hs : σ[i]? = some (some (.ref p))) (r : RpO K F ws es) (ha : es.at p) :
    Ok K F0 H0 F (upd H p ws) σ (Γ.set i (.own es)) := by
  obtain ⟨p', vs, a, b, c, d, e, _⟩ := o.ow i ds hi
  rw [hs] at a
  cases a
  have il : i < Γ.length := (List.getElem?_eq_some_iff.mp hi).1
  refine ⟨⟨o.g.f, fun x u h => ?_, fun x u h => ?_, o.g.n⟩, by simpa using o.len, fun j e' h => ?_, fun j fs h => ?_, fun j k fs gs q hjk h1 h2 h3 h4 => ?_⟩
  · rw [upd_ne (ne_of_none h c)]
    exact o.g.s x u h
  · rw [upd_ne (ne_of_none h d)]
    exact o.g.h x u h
  · rcases set_get h with ⟨rfl, q⟩ | ⟨n, q⟩
    · cases q
    · exact o.fz j e' q
  · rcases set_get h with ⟨rfl, q⟩ | ⟨n, q⟩
    · cases q
      exact ⟨p, ws, hs, upd_same, c, d, r, ha⟩
    · obtain ⟨q', xs, a', b', c', d', e', f'⟩ := o.ow j fs q
      have nq : q' ≠ p := fun z => by
        subst z
        exact o.ap i j ds fs q' n hi q hs a'
      exact ⟨q', xs, a', by rw [upd_ne nq]; exact b', c', d', e', f'⟩
  · have back : ∀ {x : Nat} {zs : Ow}, (Γ.set i (.own es))[x]? = some (.own zs) → ∃ ys, Γ[x]? = some (.own ys) := fun {x zs} h => by
      rcases set_get h with ⟨rfl, q⟩ | ⟨n, q⟩
      · exact ⟨ds, hi⟩
      · exact ⟨zs, q⟩
    obtain ⟨y1, q1⟩ := back h1
    obtain ⟨y2, q2⟩ := back h2
    exact o.ap j k y1 y2 q hjk q1 q2 h3 h4
/-- an owned list is frozen -/
theorem Ok.freeze (o : Ok K F0 H0 F H σ Γ) {i : Nat} {ds : Ow} (hi : Γ[i]? = some (.own ds)) : ∃ F', Gr F0 H0 F' H ∧ Same F F' ∧ Ok K F0 H0 F' H σ (Γ.set i (.fz ds.toD)) ∧ ∃ p, ds.at p ∧ Rp K F' (.ref p) ds.toD := by
  obtain ⟨p, vs, a, b, c, d, e, at_⟩ := o.ow i ds hi
  have sF : Same F (upd F p vs) := same_upd c
  have g : Gr F0 H0 (upd F p vs) H := by
    refine ⟨o.g.f.trans sF, fun x u h => ?_, o.g.h, fun x h1 h2 => ?_⟩
    · by_cases hx : x = p
      · subst hx; rw [upd_same] at h; cases h; exact b
      · rw [upd_ne hx] at h; exact o.g.s x u h
    · have hx : x ≠ p := fun z => h2 (by rw [z]; exact d)
      rw [upd_ne hx]; exact o.g.n x h1 h2
  refine ⟨upd F p vs, g, sF, ⟨g, by simpa using o.len, fun j e' h => ?_, fun j fs h => ?_, fun j k fs gs q hjk h1 h2 h3 h4 => ?_⟩, p, at_, RpO.rp upd_same (e.mono sF)⟩
  · rcases set_get h with ⟨rfl, q⟩ | ⟨n, q⟩
    · cases q
      exact ⟨.ref p, a, RpO.rp upd_same (e.mono sF)⟩
    · obtain ⟨v, h1, h2⟩ := o.fz j e' q
      exact ⟨v, h1, h2.mono sF⟩
  · rcases set_get h with ⟨rfl, q⟩ | ⟨n, q⟩
    · cases q
    · obtain ⟨q', xs, a', b', c', d', e', f'⟩ := o.ow j fs q
      have nq : q' ≠ p := fun z => by
        subst z
        exact o.ap i j ds fs q' n hi q a a'
      exact ⟨q', xs, a', b', by rw [upd_ne nq]; exact c', d', e'.mono sF, f'⟩
  · rcases set_get h1 with ⟨rfl, q⟩ | ⟨n1, q1⟩
    · cases q
    · rcases set_get h2 with ⟨rfl, q⟩ | ⟨n2, q2⟩
      · cases q
      · exact o.ap j k fs gs q hjk q1 q2 h3 h4
/-- the slots of a block of its own -/
def wipeG (Γ : Gam) : List Nat → Gam
  | [] => Γ
  | v :: vs => (wipeG Γ vs).set v .no
theorem Ok.wipe (o : Ok K F0 H0 F H σ Γ) : ∀ vs : List Nat, Ok K F0 H0 F H (L2.wipe σ vs) (wipeG Γ vs)
  | [] => o
  | v :: vs => (Ok.wipe o vs).no v none
end
theorem set_set_ne {α : Type} (l : List α) {i j : Nat} (h : i ≠ j) (x y : α) : (l.set i x).set j y = (l.set j y).set i x := (List.set_comm x y h)
theorem wipe_set {σ : L2.St} {j : Nat} {x : Option V} : ∀ {vs : List Nat}, j ∈ vs → L2.wipe (σ.set j x) vs = L2.wipe σ vs
  | [], h => by cases h
  | v :: vs, h => by
    show (L2.wipe (σ.set j x) vs).set v none = (L2.wipe σ vs).set v none
    by_cases hm : j ∈ vs
    · rw [wipe_set hm]
    · rcases List.mem_cons.mp h with e | e
      · subst e
        have step : ∀ ws : List Nat, j ∉ ws → L2.wipe (σ.set j x) ws = (L2.wipe σ ws).set j x := by
          intro ws
          induction ws with
          | nil => intro _; rfl
          | cons w ws ih =>
            intro hn
            show (L2.wipe (σ.set j x) ws).set w none = ((L2.wipe σ ws).set w none).set j x
            rw [ih fun z => hn (List.mem_cons_of_mem _ z)]
            exact set_set_ne _ (fun z => hn (by rw [z]; exact List.mem_cons_self)) _ _
        rw [step vs hm, List.set_set]
      · exact absurd e hm
theorem wipe_wipe (σ : L2.St) : ∀ vs : List Nat, L2.wipe (L2.wipe σ vs) vs = L2.wipe σ vs := by
  have step : ∀ (ws vs : List Nat), (∀ w ∈ ws, w ∈ vs) → L2.wipe (L2.wipe σ ws) vs = L2.wipe σ vs := by
    intro ws
    induction ws with
    | nil => intro vs _; rfl
    | cons w ws ih =>
      intro vs h
      show L2.wipe ((L2.wipe σ ws).set w none) vs = _
      rw [wipe_set (h w List.mem_cons_self)]
      exact ih vs fun x hx => h x (List.mem_cons_of_mem _ hx)
  exact fun vs => step vs vs fun _ h => h
end DL

namespace DL
open PySem L2

/-! ### what evaluates to what -/
def Ed (K : PySem.W.Frag) (te : TE) (Γ : Gam) (d : D) : Prop := ∀ (F0 H0 F H : Hp) (σ : L2.St), Ok K F0 H0 F H σ Γ → ∀ Q : VK, (∀ v F1 H1, Gr F H F1 H1 → Rp K F1 v d → Q v H1) → te σ H Q
def Et (K : PySem.W.Frag) (tt : TT) (Γ : Gam) (b : Bool) : Prop := ∀ (F0 H0 F H : Hp) (σ : L2.St), Ok K F0 H0 F H σ Γ → ∀ Q : Bool → Hp → Prop, (∀ F1 H1, Gr F H F1 H1 → Q b H1) → tt σ H Q
def Ea (K : PySem.W.Frag) (ta : TA) (Γ : Gam) (ds : List D) : Prop := ∀ (F0 H0 F H : Hp) (σ : L2.St), Ok K F0 H0 F H σ Γ → ∀ Q : List V → Hp → Prop, (∀ vs F1 H1, Gr F H F1 H1 → RpA K F1 vs ds → Q vs H1) → ta σ H Q
def Eo (K : PySem.W.Frag) (to : TO) (Γ : Gam) (o : Option Int) : Prop := ∀ (F0 H0 F H : Hp) (σ : L2.St), Ok K F0 H0 F H σ Γ → ∀ Q : Option Int → Hp → Prop, (∀ F1 H1, Gr F H F1 H1 → Q o H1) → to σ H Q
/-- a new list that nobody else holds -/
def Ew (K : PySem.W.Frag) (te : TE) (Γ : Gam) (ds : List D) : Prop := ∀ (F0 H0 F H : Hp) (σ : L2.St), Ok K F0 H0 F H σ Γ → ∀ Q : VK, (∀ p vs F1 H1, Gr F H F1 H1 → H p = none → F1 p = none → H1 p = some (.lst vs) → RpA K F1 vs ds → Q (.ref p) H1) → te σ H Q
/-- it raises an error of the class at C -/
def Xd (K : PySem.W.Frag) (E : XK) (te : TE) (Γ : Gam) (C : Addr) : Prop := ∀ (F0 H0 F H : Hp) (σ : L2.St), Ok K F0 H0 F H σ Γ → (∀ F1 H1, Gr F H F1 H1 → E (.ref C) none H1) → ∀ Q : VK, te σ H Q
def Xa (K : PySem.W.Frag) (E : XK) (ta : TA) (Γ : Gam) (C : Addr) : Prop := ∀ (F0 H0 F H : Hp) (σ : L2.St), Ok K F0 H0 F H σ Γ → (∀ F1 H1, Gr F H F1 H1 → E (.ref C) none H1) → ∀ Q : List V → Hp → Prop, ta σ H Q
/-! by values -/
def R2D (K : PySem.W.Frag) (r : R2) (dx dy d : D) : Prop := ∀ (F H : Hp) (x y : V), Same F H → Rp K F x dx → Rp K F y dy → ∀ Q : VK, (∀ v F1 H1, Gr F H F1 H1 → Rp K F1 v d → Q v H1) → r x y H Q
def R1D (K : PySem.W.Frag) (r : V → Hp → VK → Prop) (dx d : D) : Prop := ∀ (F H : Hp) (x : V), Same F H → Rp K F x dx → ∀ Q : VK, (∀ v F1 H1, Gr F H F1 H1 → Rp K F1 v d → Q v H1) → r x H Q
def RcD (K : PySem.W.Frag) (r : List V → Hp → VK → Prop) (ds : List D) (d : D) : Prop := ∀ (F H : Hp) (xs : List V), Same F H → RpA K F xs ds → ∀ Q : VK, (∀ v F1 H1, Gr F H F1 H1 → Rp K F1 v d → Q v H1) → r xs H Q
def RmD (K : PySem.W.Frag) (r : V → List V → Hp → VK → Prop) (dx : D) (ds : List D) (d : D) : Prop := ∀ (F H : Hp) (x : V) (xs : List V), Same F H → Rp K F x dx → RpA K F xs ds → ∀ Q : VK, (∀ v F1 H1, Gr F H F1 H1 → Rp K F1 v d → Q v H1) → r x xs H Q
def RsD (K : PySem.W.Frag) (r : V → Option Int → Option Int → Hp → VK → Prop) (dx : D) (lo hi : Option Int) (d : D) : Prop := ∀ (F H : Hp) (x : V), Same F H → Rp K F x dx → ∀ Q : VK, (∀ v F1 H1, Gr F H F1 H1 → Rp K F1 v d → Q v H1) → r x lo hi H Q
section
variable {K : PySem.W.Frag} {Γ Γ' : Gam} {ta tb te tx : TE} {t u : TT} {d dx dy : D} {ds es : List D} {tas tr : TA} {E : XK}
theorem Ed.le (h : Ed K te Γ' d) (l : Le Γ Γ') : Ed K te Γ d := fun F0 H0 F H σ o Q q => h F0 H0 F H σ (o.le l) Q q
theorem ed_is {d' : D} (h : Ed K te Γ d) (e : d = d') : Ed K te Γ d' := e ▸ h
theorem et_is {b c : Bool} (h : Et K t Γ b) (e : b = c) : Et K t Γ c := e ▸ h
theorem ed_fz (i : Nat) (h : Γ[i]? = some (.fz d)) : Ed K (tVar i) Γ d := fun F0 H0 F H σ o Q q => by
  obtain ⟨v, a, b⟩ := o.fz i d h
  exact ⟨v, a, q v F H (Gr.refl o.g.s) b⟩
theorem ed_c {v : V} (h : ∀ F, Rp K F v d) : Ed K (tC v) Γ d := fun F0 H0 F H σ o Q q => q v F H (Gr.refl o.g.s) (h F)
theorem ed_int (i : Int) : Ed K (tC (.int i)) Γ (.int i) := ed_c fun F => .int i
theorem ed_bl (i : Bool) : Ed K (tC (.bl i)) Γ (.bl i) := ed_c fun F => .bl i
theorem ed_non : Ed K (tC .non) Γ .non := ed_c fun F => .non
theorem ed_str (i : Str) : Ed K (tC (.str i)) Γ (.str i) := ed_c fun F => .str i
theorem ed_ty (i : String) : Ed K (tC (.ty i)) Γ (.ty i) := ed_c fun F => .ty i
theorem ed_adr (a : Addr) : Ed K (tC (.ref a)) Γ (.adr a) := ed_c fun F => .adr a
theorem ed_op {r : R2} (ha : Ed K ta Γ dx) (hb : Ed K tb Γ dy) (hr : R2D K r dx dy d) : Ed K (tOp r ta tb) Γ d := fun F0 H0 F H σ o Q q =>
  ha F0 H0 F H σ o _ fun v F1 H1 g1 r1 => hb F0 H0 F1 H1 σ (o.grow g1) _ fun w F2 H2 g2 r2 => hr F2 H2 v w g2.s (r1.mono g2.f) r2 Q fun z F3 H3 g3 r3 => q z F3 H3 ((g1.trans g2).trans g3) r3
theorem ed_un {r : V → Hp → VK → Prop} (ha : Ed K ta Γ dx) (hr : R1D K r dx d) : Ed K (tUn r ta) Γ d := fun F0 H0 F H σ o Q q =>
  ha F0 H0 F H σ o _ fun v F1 H1 g1 r1 => hr F1 H1 v g1.s r1 Q fun z F3 H3 g3 r3 => q z F3 H3 (g1.trans g3) r3
theorem ea_nil : Ea K tNil Γ [] := fun F0 H0 F H σ o Q q => q [] F H (Gr.refl o.g.s) .nil
theorem ea_cons (ha : Ed K ta Γ d) (hb : Ea K tr Γ ds) : Ea K (tCons ta tr) Γ (d :: ds) := fun F0 H0 F H σ o Q q =>
  ha F0 H0 F H σ o _ fun v F1 H1 g1 r1 => hb F0 H0 F1 H1 σ (o.grow g1) _ fun w F2 H2 g2 r2 => q (v :: w) F2 H2 (g1.trans g2) (.cons (r1.mono g2.f) r2)
theorem ed_cb {r : List V → Hp → VK → Prop} (ha : Ea K tas Γ ds) (hr : RcD K r ds d) : Ed K (tCB r tas) Γ d := fun F0 H0 F H σ o Q q =>
  ha F0 H0 F H σ o _ fun v F1 H1 g1 r1 => hr F1 H1 v g1.s r1 Q fun z F3 H3 g3 r3 => q z F3 H3 (g1.trans g3) r3
theorem eo_none : Eo K tNoPart Γ none := fun F0 H0 F H σ o Q q => q F H (Gr.refl o.g.s)
theorem eo_some {i : Int} (h : Ed K te Γ (.int i)) : Eo K (tPart te) Γ (some i) := fun F0 H0 F H σ o Q q =>
  h F0 H0 F H σ o _ fun v F1 H1 g1 r1 => by
    cases r1
    exact ⟨i, rfl, q F1 H1 g1⟩
theorem ed_sl {r : V → Option Int → Option Int → Hp → VK → Prop} {tl th : TO} {lo hi : Option Int} (h : Ed K te Γ dx) (h1 : Eo K tl Γ lo) (h2 : Eo K th Γ hi) (hr : RsD K r dx lo hi d) : Ed K (tSl r te tl th) Γ d := fun F0 H0 F H σ o Q q =>
  h F0 H0 F H σ o _ fun v F1 H1 g1 r1 => h1 F0 H0 F1 H1 σ (o.grow g1) _ fun F2 H2 g2 => h2 F0 H0 F2 H2 σ ((o.grow g1).grow g2) _ fun F3 H3 g3 =>
    hr F3 H3 v g3.s ((r1.mono g2.f).mono g3.f) Q fun z F4 H4 g4 r4 => q z F4 H4 (((g1.trans g2).trans g3).trans g4) r4
/-- tests -/
theorem et_test {b : Bool} (h : Ed K te Γ (.bl b)) : Et K (tTest te) Γ b := fun F0 H0 F H σ o Q q => h F0 H0 F H σ o _ fun v F1 H1 g1 r1 => by
  cases r1
  exact ⟨b, rfl, q F1 H1 g1⟩
theorem et_B {b : Bool} (h : Ed K te Γ (.bl b)) : Et K (tB te) Γ b := fun F0 H0 F H σ o Q q => h F0 H0 F H σ o _ fun v F1 H1 g1 r1 => by
  cases r1
  exact ⟨b, rfl, q F1 H1 g1⟩
theorem et_and {a b : Bool} (h1 : Et K t Γ a) (h2 : a = true → Et K u Γ b) : Et K (tAnd t u) Γ (a && b) := fun F0 H0 F H σ o Q q => h1 F0 H0 F H σ o _ fun F1 H1 g1 => by
  cases a with
  | true =>
    show u σ H1 Q
    exact h2 rfl F0 H0 F1 H1 σ (o.grow g1) Q fun F2 H2 g2 => q F2 H2 (g1.trans g2)
  | false =>
    show Q false H1
    exact q F1 H1 g1
theorem et_or {a b : Bool} (h1 : Et K t Γ a) (h2 : a = false → Et K u Γ b) : Et K (tOr t u) Γ (a || b) := fun F0 H0 F H σ o Q q => h1 F0 H0 F H σ o _ fun F1 H1 g1 => by
  cases a with
  | false =>
    show u σ H1 Q
    exact h2 rfl F0 H0 F1 H1 σ (o.grow g1) Q fun F2 H2 g2 => q F2 H2 (g1.trans g2)
  | true =>
    show Q true H1
    exact q F1 H1 g1
theorem et_not {a : Bool} (h1 : Et K t Γ a) : Et K (tNot t) Γ (!a) := fun F0 H0 F H σ o Q q => h1 F0 H0 F H σ o _ fun F1 H1 g1 => q F1 H1 g1
theorem ed_andV {a b : Bool} (h1 : Ed K ta Γ (.bl a)) (h2 : a = true → Ed K tb Γ (.bl b)) : Ed K (tAndV ta tb) Γ (.bl (a && b)) := fun F0 H0 F H σ o Q q => h1 F0 H0 F H σ o _ fun v F1 H1 g1 r1 => by
  cases r1
  refine ⟨a, rfl, ?_⟩
  cases a with
  | true =>
    show tb σ H1 Q
    exact h2 rfl F0 H0 F1 H1 σ (o.grow g1) Q fun v F2 H2 g2 r2 => q v F2 H2 (g1.trans g2) r2
  | false =>
    show Q (.bl false) H1
    exact q _ F1 H1 g1 (.bl false)
theorem ed_orV {a b : Bool} (h1 : Ed K ta Γ (.bl a)) (h2 : a = false → Ed K tb Γ (.bl b)) : Ed K (tOrV ta tb) Γ (.bl (a || b)) := fun F0 H0 F H σ o Q q => h1 F0 H0 F H σ o _ fun v F1 H1 g1 r1 => by
  cases r1
  refine ⟨a, rfl, ?_⟩
  cases a with
  | false =>
    show tb σ H1 Q
    exact h2 rfl F0 H0 F1 H1 σ (o.grow g1) Q fun v F2 H2 g2 r2 => q v F2 H2 (g1.trans g2) r2
  | true =>
    show Q (.bl true) H1
    exact q _ F1 H1 g1 (.bl true)
theorem ed_notV {a : Bool} (h1 : Ed K ta Γ (.bl a)) : Ed K (tNotV ta) Γ (.bl (!a)) := fun F0 H0 F H σ o Q q => h1 F0 H0 F H σ o _ fun v F1 H1 g1 r1 => by
  cases r1
  exact ⟨a, rfl, q _ F1 H1 g1 (.bl _)⟩
theorem et_orT (h : Et K t Γ true) : Et K (tOr t u) Γ true := et_or (b := false) h fun z => nomatch z
theorem et_orF {b : Bool} (h : Et K t Γ false) (h2 : Et K u Γ b) : Et K (tOr t u) Γ b := et_or h fun _ => h2
theorem et_andT {b : Bool} (h : Et K t Γ true) (h2 : Et K u Γ b) : Et K (tAnd t u) Γ b := et_and h fun _ => h2
theorem et_andF (h : Et K t Γ false) : Et K (tAnd t u) Γ false := et_and (b := false) h fun z => nomatch z
theorem ed_orT (h : Ed K ta Γ (.bl true)) : Ed K (tOrV ta tb) Γ (.bl true) := ed_orV (b := false) h fun z => nomatch z
theorem ed_orF {b : Bool} (h : Ed K ta Γ (.bl false)) (h2 : Ed K tb Γ (.bl b)) : Ed K (tOrV ta tb) Γ (.bl b) := ed_orV h fun _ => h2
theorem ed_andT {b : Bool} (h : Ed K ta Γ (.bl true)) (h2 : Ed K tb Γ (.bl b)) : Ed K (tAndV ta tb) Γ (.bl b) := ed_andV h fun _ => h2
theorem ed_andF (h : Ed K ta Γ (.bl false)) : Ed K (tAndV ta tb) Γ (.bl false) := ed_andV (b := false) h fun z => nomatch z
theorem et_nF (h : Et K t Γ true) : Et K (tNot t) Γ false := et_not h
theorem et_nT (h : Et K t Γ false) : Et K (tNot t) Γ true := et_not h
theorem ed_if {b : Bool} (h : Et K t Γ b) (h1 : b = true → Ed K ta Γ d) (h2 : b = false → Ed K tb Γ d) : Ed K (tIf t ta tb) Γ d := fun F0 H0 F H σ o Q q => h F0 H0 F H σ o _ fun F1 H1 g1 => by
  cases b with
  | true =>
    show ta σ H1 Q
    exact h1 rfl F0 H0 F1 H1 σ (o.grow g1) Q fun v F2 H2 g2 r2 => q v F2 H2 (g1.trans g2) r2
  | false =>
    show tb σ H1 Q
    exact h2 rfl F0 H0 F1 H1 σ (o.grow g1) Q fun v F2 H2 g2 r2 => q v F2 H2 (g1.trans g2) r2
theorem ed_chain {r r' : R2} {tc : TE} {dz : D} {a b : Bool} (ha : Ed K ta Γ dx) (hb : Ed K tb Γ dy) (h1 : R2D K r dx dy (.bl a)) (h2 : a = true → Ed K tc Γ dz ∧ R2D K r' dy dz (.bl b)) : Ed K (tChain r r' ta tb tc) Γ (.bl (a && b)) := fun F0 H0 F H σ o Q q =>
  ha F0 H0 F H σ o _ fun v F1 H1 g1 r1 => hb F0 H0 F1 H1 σ (o.grow g1) _ fun w F2 H2 g2 r2 => h1 F2 H2 v w g2.s (r1.mono g2.f) r2 _ fun z F3 H3 g3 r3 => by
    cases r3
    refine ⟨a, rfl, ?_⟩
    cases a with
    | true =>
      show tc σ H3 _
      obtain ⟨hc, h3⟩ := h2 rfl
      exact hc F0 H0 F3 H3 σ (((o.grow g1).grow g2).grow g3) _ fun y F4 H4 g4 r4 => h3 F4 H4 w y g4.s ((r2.mono g3.f).mono g4.f) r4 Q fun z F5 H5 g5 r5 => q z F5 H5 ((((g1.trans g2).trans g3).trans g4).trans g5) r5
    | false =>
      show Q (.bl false) H3
      exact q _ F3 H3 ((g1.trans g2).trans g3) (.bl false)
/-- displays -/
theorem ed_tup (h : Ea K tas Γ ds) (hl : ds.length ≤ 100000 := by exact Nat.le_of_ble_eq_true rfl) : Ed K (tTup tas) Γ (.tup ds) := fun F0 H0 F H σ o Q q => h F0 H0 F H σ o _ fun vs F1 H1 g1 r1 =>
  ⟨by rw [r1.len]; exact Nat.le_trans hl (by decide), fun p hp => by
    have g2 := Gr.new (o := .tup vs) g1.s hp
    exact q _ _ _ (g1.trans g2) (.tup (.inl (.inl upd_same)) (r1.mono g2.f))⟩
theorem ew_lst (h : Ea K tas Γ ds) (hl : ds.length ≤ 100000 := by exact Nat.le_of_ble_eq_true rfl) : Ew K (tLst tas) Γ ds := fun F0 H0 F H σ o Q q => h F0 H0 F H σ o _ fun vs F1 H1 g1 r1 =>
  ⟨by rw [r1.len]; exact Nat.le_trans hl (by decide), fun p hp => by
    have g2 := Gr.newO (o := .lst vs) g1.s hp
    exact q p vs F1 _ (g1.trans g2) (g1.h.free hp) (g1.s.free hp) upd_same r1⟩
/-- a new list frozen -/
theorem ed_ow (h : Ew K te Γ ds) : Ed K te Γ (.lst ds) := fun F0 H0 F H σ o Q q => h F0 H0 F H σ o _ fun p vs F1 H1 g1 hp hf h1 r1 => by
  have sF : Same F1 (upd F1 p (.lst vs)) := same_upd hf
  have g : Gr F H (upd F1 p (.lst vs)) H1 := ⟨g1.f.trans sF, fun x y e => by
    by_cases hx : x = p
    · subst hx; rw [upd_same] at e; cases e; exact h1
    · rw [upd_ne hx] at e; exact g1.s x y e, g1.h, fun x a b => by
    have hx : x ≠ p := fun z => b (by rw [z]; exact hp)
    rw [upd_ne hx]; exact g1.n x a b⟩
  exact q _ _ _ g (.lst upd_same (r1.mono sF))
theorem ed_dct : Ed K tDNewK Γ .dct := fun F0 H0 F H σ o Q q => fun p hp => by
  have g := Gr.new (o := .dK []) o.g.s hp
  exact q _ _ _ g (.dct upd_same)
theorem ed_lst (h : Ea K tas Γ ds) (hl : ds.length ≤ 100000 := by exact Nat.le_of_ble_eq_true rfl) : Ed K (tLst tas) Γ (.lst ds) := ed_ow (ew_lst h hl)
end

/-! ### statements -/
inductive Oc where
  | nx (Γ : Gam) | rt (d : D) | lp (Γ : Gam) | ex (C : Addr) | rw (ds : List D)
def Fin (K : PySem.W.Frag) (E : XK) (De : Ends) (F0 H0 Fs : Hp) : Oc → Prop
  | .nx Γ => ∀ F H σ, Same Fs F → Ok K F0 H0 F H σ Γ → De.nx σ H
  | .lp Γ => (∀ F H σ, Same Fs F → Ok K F0 H0 F H σ Γ → De.nx σ H) ∧ (∀ F H σ, Same Fs F → Ok K F0 H0 F H σ Γ → De.ct σ H)
  | .rt d => ∀ v F H, Gr F0 H0 F H → Rp K F v d → De.rt v H
  | .ex C => ∀ F H, Gr F0 H0 F H → E (.ref C) none H
  | .rw ds => ∀ p vs F H, Gr F0 H0 F H → H0 p = none → F p = none → H p = some (.lst vs) → RpA K F vs ds → De.rt (.ref p) H
/-- the end leaves the loop or the block -/
def Oc.out : Oc → Bool
  | .rt _ | .ex _ | .rw _ => true
  | _ => false
theorem Fin.mono {K : PySem.W.Frag} {E : XK} {De : Ends} {F0 H0 Fs Fs' : Hp} {o : Oc} (h : Fin K E De F0 H0 Fs o) (e : Same Fs Fs') : Fin K E De F0 H0 Fs' o := by
  cases o with
  | nx Γ => exact fun F H σ a b => h F H σ (e.trans a) b
  | lp Γ => exact ⟨fun F H σ a b => h.1 F H σ (e.trans a) b, fun F H σ a b => h.2 F H σ (e.trans a) b⟩
  | rt d => exact h
  | ex C => exact h
  | rw ds => exact h
theorem Fin.out {K : PySem.W.Frag} {E : XK} {De De' : Ends} {F0 H0 Fs Fs' : Hp} {o : Oc} (h : Fin K E De F0 H0 Fs o) (ho : o.out = true) (e : De'.rt = De.rt) : Fin K E De' F0 H0 Fs' o := by
  cases o with
  | nx => cases ho
  | lp => cases ho
  | rt d => intro v F H g r; rw [e]; exact h v F H g r
  | ex C => exact h
  | rw ds => intro p vs F H g a b c r; rw [e]; exact h p vs F H g a b c r
def Sd (K : PySem.W.Frag) (E : XK) (ts : TS) (Γ : Gam) (o : Oc) : Prop := ∀ (F0 H0 F H : Hp) (σ : L2.St) (De : Ends), Ok K F0 H0 F H σ Γ → Fin K E De F0 H0 F o → ts De σ H
/-- a target takes a value -/
def Eg (K : PySem.W.Frag) (g : TG) (js : List Nat) (d : D) (Γ Γ' : Gam) : Prop := ∀ (F0 H0 F H : Hp) (σ : L2.St) (v : V), Ok K F0 H0 F H σ Γ → Rp K F v d → ∀ Q : L2.St → Hp → Prop,
  (∀ σ', Ok K F0 H0 F H σ' Γ' → (∀ vs : List Nat, (∀ j ∈ js, j ∈ vs) → L2.wipe σ' vs = L2.wipe σ vs) → Q σ' H) → g v σ H Q
def Egs (K : PySem.W.Frag) (g : TGs) (js : List Nat) (ds : List D) (Γ Γ' : Gam) : Prop := ∀ (F0 H0 F H : Hp) (σ : L2.St) (vs : List V), Ok K F0 H0 F H σ Γ → RpA K F vs ds → ∀ Q : L2.St → Hp → Prop,
  (∀ σ', Ok K F0 H0 F H σ' Γ' → (∀ vs : List Nat, (∀ j ∈ js, j ∈ vs) → L2.wipe σ' vs = L2.wipe σ vs) → Q σ' H) → g vs σ H Q
section
variable {K : PySem.W.Frag} {E : XK} {Γ Γ' Γ1 Γ2 : Gam} {ta tb te tx : TE} {t u : TT} {d dx dy : D} {ds es : List D} {tas tr : TA} {ts tu : TS} {o : Oc} {g : TG} {gs : TGs} {js ks : List Nat} {C : Addr}
theorem eg_name (i : Nat) : Eg K (gName i) [i] d Γ (Γ.set i (.fz d)) := fun F0 H0 F H σ v ok r Q q => q _ (ok.set r) fun vs h => wipe_set (h i List.mem_cons_self)
theorem egs_nil : Egs K gNil [] [] Γ Γ := fun F0 H0 F H σ vs ok r Q q => by
  cases r
  exact ⟨rfl, q σ ok fun _ _ => rfl⟩
theorem egs_cons (h1 : Eg K g js d Γ Γ1) (h2 : Egs K gs ks ds Γ1 Γ2) : Egs K (gCons g gs) (js ++ ks) (d :: ds) Γ Γ2 := fun F0 H0 F H σ vs ok r Q q => by
  cases r with
  | cons r1 r2 =>
    exact ⟨_, _, rfl, h1 F0 H0 F H σ _ ok r1 _ fun σ1 ok1 w1 => h2 F0 H0 F H σ1 _ ok1 r2 Q fun σ2 ok2 w2 => q σ2 ok2 fun vs h =>
      (w2 vs fun j hj => h j (List.mem_append_right _ hj)).trans (w1 vs fun j hj => h j (List.mem_append_left _ hj))⟩
theorem eg_tup {n : Nat} (h : Egs K gs js ds Γ Γ') (hn : ds.length = n) : Eg K (gTup K n gs) js (.tup ds) Γ Γ' := fun F0 H0 F H σ v ok r Q q => by
  cases r with
  | @tup a xs _ hs ha => exact ⟨a, xs, rfl, sqt_mono ok.g.s hs, by rw [ha.len]; exact hn, h F0 H0 F H σ xs ok ha Q q⟩
theorem eg_lst {n : Nat} (h : Egs K gs js ds Γ Γ') (hn : ds.length = n) : Eg K (gLst K n gs) js (.lst ds) Γ Γ' := fun F0 H0 F H σ v ok r Q q => by
  cases r with
  | @lst a xs _ hs ha => exact ⟨a, xs, rfl, .inl (.inl (ok.g.s _ _ hs)), by rw [ha.len]; exact hn, h F0 H0 F H σ xs ok ha Q q⟩

theorem Sd.le (h : Sd K E ts Γ' o) (l : Le Γ Γ') : Sd K E ts Γ o := fun F0 H0 F H σ De ok fin => h F0 H0 F H σ De (ok.le l) fin
theorem Sd.toLp (h : Sd K E ts Γ (.nx Γ')) : Sd K E ts Γ (.lp Γ') := fun F0 H0 F H σ De ok fin => h F0 H0 F H σ De ok fin.1
theorem Sd.nxLe (h : Sd K E ts Γ (.nx Γ1)) (l : Le Γ1 Γ2) : Sd K E ts Γ (.nx Γ2) := fun F0 H0 F H σ De ok fin => h F0 H0 F H σ De ok fun F1 H1 σ1 e1 ok1 => fin F1 H1 σ1 e1 (ok1.le l)
theorem Sd.lpLe (h : Sd K E ts Γ (.lp Γ1)) (l : Le Γ1 Γ2) : Sd K E ts Γ (.lp Γ2) := fun F0 H0 F H σ De ok fin => h F0 H0 F H σ De ok ⟨fun F1 H1 σ1 e1 ok1 => fin.1 F1 H1 σ1 e1 (ok1.le l), fun F1 H1 σ1 e1 ok1 => fin.2 F1 H1 σ1 e1 (ok1.le l)⟩
theorem sd_is {o' : Oc} (h : Sd K E ts Γ o) (e : o = o') : Sd K E ts Γ o' := e ▸ h
theorem sd_next : Sd K E tNext Γ (.nx Γ) := fun F0 H0 F H σ De ok fin => fin F H σ (Same.refl F) ok
theorem sd_seq (h1 : Sd K E ts Γ (.nx Γ1)) (h2 : Sd K E tu Γ1 o) : Sd K E (tSeq ts tu) Γ o := fun F0 H0 F H σ De ok fin => h1 F0 H0 F H σ _ ok fun F1 H1 σ1 e1 ok1 => h2 F0 H0 F1 H1 σ1 De ok1 (fin.mono e1)
theorem sd_stop (h1 : Sd K E ts Γ o) (ho : o.out = true) : Sd K E (tSeq ts tu) Γ o := fun F0 H0 F H σ De ok fin => h1 F0 H0 F H σ _ ok (fin.out ho rfl)
theorem sd_if {b : Bool} (h : Et K t Γ b) (h1 : b = true → Sd K E ts Γ o) (h2 : b = false → Sd K E tu Γ o) : Sd K E (tIfS t ts tu) Γ o := fun F0 H0 F H σ De ok fin => h F0 H0 F H σ ok _ fun F1 H1 g1 => by
  cases b with
  | true => exact h1 rfl F0 H0 F1 H1 σ De (ok.grow g1) (fin.mono g1.f)
  | false => exact h2 rfl F0 H0 F1 H1 σ De (ok.grow g1) (fin.mono g1.f)
theorem sd_ifT (h : Et K t Γ true) (h1 : Sd K E ts Γ o) : Sd K E (tIfS t ts tu) Γ o := sd_if h (fun _ => h1) fun z => nomatch z
theorem sd_ifF (h : Et K t Γ false) (h1 : Sd K E tu Γ o) : Sd K E (tIfS t ts tu) Γ o := sd_if h (fun z => nomatch z) fun _ => h1
theorem sd_set (i : Nat) (h : Ed K te Γ d) : Sd K E (tAsg te (gName i)) Γ (.nx (Γ.set i (.fz d))) := fun F0 H0 F H σ De ok fin => h F0 H0 F H σ ok _ fun v F1 H1 g1 r1 => fin F1 H1 _ g1.f ((ok.grow g1).set r1)
theorem sd_asg (h : Ed K te Γ d) (hg : Eg K g js d Γ Γ') : Sd K E (tAsg te g) Γ (.nx Γ') := fun F0 H0 F H σ De ok fin => h F0 H0 F H σ ok _ fun v F1 H1 g1 r1 => hg F0 H0 F1 H1 σ v (ok.grow g1) r1 _ fun σ' ok' _ => fin F1 H1 σ' g1.f ok'
theorem sd_par {i j : Nat} {d1 d2 : D} (h : Ea K tas Γ [d1, d2]) : Sd K E (tPar i j tas) Γ (.nx ((Γ.set i (.fz d1)).set j (.fz d2))) := fun F0 H0 F H σ De ok fin => h F0 H0 F H σ ok _ fun vs F1 H1 g1 r1 => by
  cases r1 with
  | cons r1 rr =>
    cases rr with
    | cons r2 rr =>
      cases rr
      exact ⟨_, _, rfl, fin F1 H1 _ g1.f (((ok.grow g1).set r1).set r2)⟩
theorem sd_ret (h : Ed K te Γ d) : Sd K E (tRet te) Γ (.rt d) := fun F0 H0 F H σ De ok fin => h F0 H0 F H σ ok _ fun v F1 H1 g1 r1 => fin v F1 H1 (ok.g.trans g1) r1
/-- a new list that nobody else holds is handed back -/
theorem sd_retW (h : Ew K te Γ ds) : Sd K E (tRet te) Γ (.rw ds) := fun F0 H0 F H σ De ok fin => h F0 H0 F H σ ok _ fun p vs F1 H1 g1 hp hf h1 r1 => fin p vs F1 H1 (ok.g.trans g1) (ok.g.h.free hp) hf h1 r1
theorem sd_retO (i : Nat) (hi : Γ[i]? = some (.ow ds)) : Sd K E (tRet (tVar i)) Γ (.rw ds) := fun F0 H0 F H σ De ok fin => by
  obtain ⟨p, ho, a, b, c, e, r, _⟩ := ok.ow i _ hi
  cases r with
  | lst r => exact ⟨_, a, fin p _ F H ok.g e c b r⟩
theorem sd_drop (h : Ed K te Γ d) : Sd K E (tDrop te) Γ (.nx Γ) := fun F0 H0 F H σ De ok fin => h F0 H0 F H σ ok _ fun v F1 H1 g1 r1 => fin F1 H1 σ g1.f (ok.grow g1)
theorem sd_retN : Sd K E tRetN Γ (.rt .non) := fun F0 H0 F H σ De ok fin => fin _ F H ok.g .non
theorem sd_cont : Sd K E tCont Γ (.lp Γ) := fun F0 H0 F H σ De ok fin => fin.2 F H σ (Same.refl F) ok
/-- raises -/
theorem sd_retX (h : Xd K E te Γ C) : Sd K E (tRet te) Γ (.ex C) := fun F0 H0 F H σ De ok fin => h F0 H0 F H σ ok (fun F1 H1 g1 => fin F1 H1 (ok.g.trans g1)) _
theorem sd_setX (h : Xd K E te Γ C) : Sd K E (tAsg te g) Γ (.ex C) := fun F0 H0 F H σ De ok fin => h F0 H0 F H σ ok (fun F1 H1 g1 => fin F1 H1 (ok.g.trans g1)) _
theorem sd_dropX (h : Xd K E te Γ C) : Sd K E (tDrop te) Γ (.ex C) := fun F0 H0 F H σ De ok fin => h F0 H0 F H σ ok (fun F1 H1 g1 => fin F1 H1 (ok.g.trans g1)) _
theorem sd_raise : Sd K E (fun _ σ H => (fun _ H' (Q : XK) => Q (.ref C) none H') σ H fun cls d H' => E cls d H') Γ (.ex C) := fun F0 H0 F H σ De ok fin => fin F H ok.g
theorem xa_head (h : Xd K E ta Γ C) : Xa K E (tCons ta tr) Γ C := fun F0 H0 F H σ ok fin Q => h F0 H0 F H σ ok fin _
theorem xa_tail (h : Ed K ta Γ d) (hr : Xa K E tr Γ C) : Xa K E (tCons ta tr) Γ C := fun F0 H0 F H σ ok fin Q => h F0 H0 F H σ ok _ fun v F1 H1 g1 r1 => hr F0 H0 F1 H1 σ (ok.grow g1) (fun F2 H2 g2 => fin F2 H2 (g1.trans g2)) _
theorem xd_tup (h : Xa K E tas Γ C) : Xd K E (tTup tas) Γ C := fun F0 H0 F H σ ok fin Q => h F0 H0 F H σ ok fin _
theorem xd_lst (h : Xa K E tas Γ C) : Xd K E (tLst tas) Γ C := fun F0 H0 F H σ ok fin Q => h F0 H0 F H σ ok fin _
theorem xd_opL {r : R2} (h : Xd K E ta Γ C) : Xd K E (tOp r ta tb) Γ C := fun F0 H0 F H σ ok fin Q => h F0 H0 F H σ ok fin _
theorem xd_opR {r : R2} (h1 : Ed K ta Γ d) (h : Xd K E tb Γ C) : Xd K E (tOp r ta tb) Γ C := fun F0 H0 F H σ ok fin Q => h1 F0 H0 F H σ ok _ fun v F1 H1 g1 r1 => h F0 H0 F1 H1 σ (ok.grow g1) (fun F2 H2 g2 => fin F2 H2 (g1.trans g2)) _
/-- owned lists -/
theorem sd_setW (i : Nat) (h : Ew K te Γ ds) : Sd K E (tAsg te (gName i)) Γ (.nx (Γ.set i (.ow ds))) := fun F0 H0 F H σ De ok fin => h F0 H0 F H σ ok _ fun p vs F1 H1 g1 hp hf h1 r1 => by
  refine fin F1 H1 _ g1.f ?_
  have ok1 := ok.grow g1
  have h0 : H0 p = none := ok.g.h.free hp
  have old : ∀ (j : Nat) (es : Ow) (q : Addr), Γ[j]? = some (.own es) → σ[j]? = some (some (.ref q)) → q ≠ p := fun j es q a b => by
    obtain ⟨q', ws, a', b', _⟩ := ok.ow j es a
    rw [b] at a'
    cases a'
    exact ne_of_none b' hp
  refine ⟨ok1.g, by simpa using ok.len, fun j e h => ?_, fun j es h => ?_, fun j k es fs q hjk h1 h2 h3 h4 => ?_⟩
  · rcases set_get h with ⟨rfl, q⟩ | ⟨n, q⟩
    · cases q
    · rw [List.getElem?_set_ne n]
      exact ok1.fz j e q
  · rcases set_get h with ⟨rfl, q⟩ | ⟨n, q⟩
    · cases q
      exact ⟨p, _, set_at ok.len h, h1, hf, h0, .lst r1, trivial⟩
    · rw [List.getElem?_set_ne n]
      exact ok1.ow j es q
  · rcases set_get h1 with ⟨e1, x1⟩ | ⟨n1, q1⟩
    · subst e1
      rw [set_at ok.len h1] at h3
      cases h3
      rcases set_get h2 with ⟨e2, _⟩ | ⟨n2, q2⟩
      · exact hjk e2
      · rw [List.getElem?_set_ne n2] at h4
        exact old k fs p q2 h4 rfl
    · rw [List.getElem?_set_ne n1] at h3
      rcases set_get h2 with ⟨e2, x2⟩ | ⟨n2, q2⟩
      · subst e2
        rw [set_at ok.len h2] at h4
        cases h4
        exact old j es p q1 h3 rfl
      · rw [List.getElem?_set_ne n2] at h4
        exact ok.ap j k es fs q hjk q1 q2 h3 h4
theorem sd_freeze (i : Nat) {ow : Ow} (hi : Γ[i]? = some (.own ow)) (h : Sd K E ts (Γ.set i (.fz ow.toD)) o) : Sd K E ts Γ o := fun F0 H0 F H σ De ok fin => by
  obtain ⟨F', g, sf, ok', _⟩ := ok.freeze hi
  exact h F0 H0 F' H σ De ok' (fin.mono sf)
theorem tyV_list {H : Hp} {p : Addr} {vs : List V} (h : H p = some (.lst vs)) : tyV K "list" (.ref p) H := .inl ⟨rfl, vs, .inl (.inl h)⟩
theorem sd_app (i : Nat) (hi : Γ[i]? = some (.ow ds)) (h : Ed K te Γ d) (hl : ds.length < 100000) : Sd K E (tDrop (tBM K "list" rAppend (tVar i) (tCons te tNil))) Γ (.nx (Γ.set i (.ow (ds ++ [d])))) := fun F0 H0 F H σ De ok fin => by
  obtain ⟨p, ho, a, b, c, e, r, _⟩ := ok.ow i (.lst ds) hi
  obtain ⟨vs, rfl, r'⟩ : ∃ vs, ho = .lst vs ∧ RpA K F vs ds := by
    cases r with
    | lst r => exact ⟨_, rfl, r⟩
  replace r := r'
  refine ⟨.ref p, a, tyV_list b, ?_⟩
  refine h F0 H0 F H σ ok _ fun v F1 H1 g1 r1 => ?_
  obtain ⟨c1, b1⟩ := g1.out c b
  refine ⟨p, vs, v, rfl, rfl, b1, Nat.lt_of_lt_of_le (by rw [r.len]; exact hl) (by decide), ?_⟩
  exact fin F1 _ σ g1.f ((ok.grow g1).upOw hi a (.lst ((r.mono g1.f).append (.one r1))) trivial)
theorem sd_ext (i : Nat) (hi : Γ[i]? = some (.ow ds)) (h : Ed K te Γ (.lst es)) (hl : ds.length + es.length ≤ 100000) : Sd K E (tDrop (tBM K "list" rExtend (tVar i) (tCons te tNil))) Γ (.nx (Γ.set i (.ow (ds ++ es)))) := fun F0 H0 F H σ De ok fin => by
  obtain ⟨p, ho, a, b, c, e, r, _⟩ := ok.ow i (.lst ds) hi
  obtain ⟨vs, rfl, r'⟩ : ∃ vs, ho = .lst vs ∧ RpA K F vs ds := by
    cases r with
    | lst r => exact ⟨_, rfl, r⟩
  replace r := r'
  refine ⟨.ref p, a, tyV_list b, ?_⟩
  refine h F0 H0 F H σ ok _ fun v F1 H1 g1 r1 => ?_
  obtain ⟨c1, b1⟩ := g1.out c b
  cases r1 with
  | @lst q ws _ hq rq =>
    refine ⟨p, q, vs, ws, rfl, rfl, b1, g1.s _ _ hq, Nat.le_trans (by rw [r.len, rq.len]; exact hl) (by decide), ?_⟩
    exact fin F1 _ σ g1.f ((ok.grow g1).upOw hi a (.lst ((r.mono g1.f).append rq)) trivial)
/-- while -/
inductive LoopW (K : PySem.W.Frag) (E : XK) (t : TT) (ts : TS) : Nat → Gam → Oc → Prop
  | done {Γ : Gam} : Et K t Γ false → LoopW K E t ts 0 Γ (.nx Γ)
  | step {n : Nat} {Γ Γ1 : Gam} {o : Oc} : Et K t Γ true → Sd K E ts Γ (.lp Γ1) → LoopW K E t ts n Γ1 o → LoopW K E t ts (n + 1) Γ o
  | out {Γ : Gam} {o : Oc} : Et K t Γ true → Sd K E ts Γ o → o.out = true → LoopW K E t ts 1 Γ o
theorem sd_while {n : Nat} (h : LoopW K E t ts n Γ o) : Sd K E (tWhile t ts) Γ o := fun F0 H0 F H σ De ok fin =>
  ⟨fun m σ H => ∃ Γ F', LoopW K E t ts m Γ o ∧ Same F F' ∧ Ok K F0 H0 F' H σ Γ, ⟨n, Γ, F, h, Same.refl F, ok⟩, fun m σ1 H1 ⟨Γ1, F1, l, s1, ok1⟩ => by
    cases l with
    | done ht => exact ht F0 H0 F1 H1 σ1 ok1 _ fun F2 H2 g2 => fin F2 H2 σ1 (s1.trans g2.f) (ok1.grow g2)
    | @step k _ Γ2 _ ht hs hl =>
      refine ht F0 H0 F1 H1 σ1 ok1 _ fun F2 H2 g2 => ?_
      refine ⟨fun σ H => ∃ F', Same F F' ∧ Ok K F0 H0 F' H σ Γ2, fun σ' H' ⟨F', s', ok'⟩ => ⟨k, Nat.lt_succ_self k, Γ2, F', hl, s', ok'⟩, ?_⟩
      exact hs F0 H0 F2 H2 σ1 _ (ok1.grow g2) ⟨fun F3 H3 σ3 e3 ok3 => ⟨F3, (s1.trans g2.f).trans e3, ok3⟩, fun F3 H3 σ3 e3 ok3 => ⟨F3, (s1.trans g2.f).trans e3, ok3⟩⟩
    | out ht hs ho =>
      refine ht F0 H0 F1 H1 σ1 ok1 _ fun F2 H2 g2 => ?_
      exact ⟨fun _ _ => False, fun _ _ z => z.elim, hs F0 H0 F2 H2 σ1 _ (ok1.grow g2) (fin.out ho rfl)⟩⟩
/-- what a for walks -/
structure Wk (K : PySem.W.Frag) (J : It) (F : Hp) (ds : List D) : Prop where
  go : ∀ i F2 H2, Same F F2 → Same F2 H2 → i < ds.length → J.go i H2
  st : ∀ F2 H2, Same F F2 → Same F2 H2 → J.stop ds.length H2
  yl : ∀ i x F2 H2 H3, Same F F2 → Same F2 H2 → i < ds.length → J.yld i H2 x H3 → ∃ F3 d, Gr F2 H2 F3 H3 ∧ ds[i]? = some d ∧ Rp K F3 x d
def Ei (K : PySem.W.Frag) (wi : TI) (Γ : Gam) (ds : List D) : Prop := ∀ (F0 H0 F H : Hp) (σ : L2.St), Ok K F0 H0 F H σ Γ → ∀ R : It → Hp → Prop, (∀ J F1 H1, Gr F H F1 H1 → Wk K J F1 ds → R J H1) → wi σ H R
theorem Wk.mono {J : It} {F F' : Hp} (w : Wk K J F ds) (e : Same F F') : Wk K J F' ds :=
  ⟨fun i F2 H2 a b c => w.go i F2 H2 (e.trans a) b c, fun F2 H2 a b => w.st F2 H2 (e.trans a) b, fun i x F2 H2 H3 a b c d => w.yl i x F2 H2 H3 (e.trans a) b c d⟩
inductive LoopF (K : PySem.W.Frag) (E : XK) (g : TG) (ts : TS) : List D → Gam → Oc → Prop
  | done {Γ : Gam} : LoopF K E g ts [] Γ (.nx Γ)
  | step {Γ Γ1 Γ2 : Gam} {js : List Nat} {d : D} {ds : List D} {o : Oc} : Eg K g js d Γ Γ1 → Sd K E ts Γ1 (.lp Γ2) → LoopF K E g ts ds Γ2 o → LoopF K E g ts (d :: ds) Γ o
  | out {Γ Γ1 : Gam} {js : List Nat} {d : D} {ds : List D} {o : Oc} : Eg K g js d Γ Γ1 → Sd K E ts Γ1 o → o.out = true → LoopF K E g ts (d :: ds) Γ o
  | le {Γ Γ1 : Gam} {ds : List D} {o : Oc} : Le Γ Γ1 → LoopF K E g ts ds Γ1 o → LoopF K E g ts ds Γ o
theorem LoopF.turn {F0 H0 F H : Hp} {σ : L2.St} {o : Oc} {ds : List D} {Γ : Gam} (l : LoopF K E g ts ds Γ o) : Ok K F0 H0 F H σ Γ →
    (ds = [] ∧ ∃ Γ1, o = .nx Γ1 ∧ Ok K F0 H0 F H σ Γ1) ∨ (∃ d r Γ0 Γ1 Γ2 js, ds = d :: r ∧ Ok K F0 H0 F H σ Γ0 ∧ Eg K g js d Γ0 Γ1 ∧ Sd K E ts Γ1 (.lp Γ2) ∧ LoopF K E g ts r Γ2 o) ∨ (∃ d r Γ0 Γ1 js, ds = d :: r ∧ Ok K F0 H0 F H σ Γ0 ∧ Eg K g js d Γ0 Γ1 ∧ Sd K E ts Γ1 o ∧ o.out = true) := by
  induction l with
  | done => exact fun ok => .inl ⟨rfl, _, rfl, ok⟩
  | step a b c _ => exact fun ok => .inr (.inl ⟨_, _, _, _, _, _, rfl, ok, a, b, c⟩)
  | out a b c => exact fun ok => .inr (.inr ⟨_, _, _, _, _, rfl, ok, a, b, c⟩)
  | le l _ ih => exact fun ok => ih (ok.le l)
theorem loopF_same {Pd : D → Prop} (h : ∀ x, Pd x → ∃ js Γ1, Eg K g js x Γ Γ1 ∧ Sd K E ts Γ1 (.lp Γ)) : ∀ ds : List D, (∀ x ∈ ds, Pd x) → LoopF K E g ts ds Γ (.nx Γ)
  | [], _ => .done
  | d :: ds, hd => by
    obtain ⟨js, Γ1, a, b⟩ := h d (hd d List.mem_cons_self)
    exact .step a b (loopF_same h ds fun x hx => hd x (List.mem_cons_of_mem _ hx))
theorem sd_for {wi : TI} (hw : Ei K wi Γ ds) (h : LoopF K E g ts ds Γ o) : Sd K E (tFor wi g ts) Γ o := fun F0 H0 F H σ De ok fin =>
  hw F0 H0 F H σ ok _ fun J F1 H1 g1 wk =>
    ⟨fun i m σ H => ∃ Γ F, m = ds.length - i ∧ i ≤ ds.length ∧ LoopF K E g ts (ds.drop i) Γ o ∧ Same F1 F ∧ Ok K F0 H0 F H σ Γ, ⟨ds.length, Γ, F1, rfl, Nat.zero_le _, h, Same.refl _, ok.grow g1⟩, by
      rintro i m σ2 H2 ⟨Γ2, F2, rfl, hi, l, s2, ok2⟩
      have out : ∀ {d : D} {r : List D}, ds.drop i = d :: r → i < ds.length ∧ ds[i]? = some d ∧ ds.drop (i + 1) = r := fun {d r} e => by
        have hlt : i < ds.length := by
          rcases Nat.lt_or_ge i ds.length with z | z
          · exact z
          · rw [List.drop_of_length_le z] at e
            cases e
        rw [List.drop_eq_getElem_cons hlt] at e
        cases e
        exact ⟨hlt, List.getElem?_eq_getElem hlt, rfl⟩
      rcases l.turn ok2 with ⟨e, Γ3, rfl, ok3⟩ | ⟨d, r, Γ0, Γ3, Γ4, js, e, ok3, hg, hs, hl⟩ | ⟨d, r, Γ0, Γ3, js, e, ok3, hg, hs, ho⟩
      · have hn : i = ds.length := by
          have z := congrArg List.length e
          rw [List.length_drop] at z
          simp only [List.length_nil] at z
          omega
        subst hn
        exact .inl ⟨wk.st F2 H2 s2 ok2.g.s, fin F2 H2 σ2 (g1.f.trans s2) ok3⟩
      · obtain ⟨hlt, hd, hr⟩ := out e
        refine .inr ⟨wk.go i F2 H2 s2 ok2.g.s hlt, fun σ H => ∃ F, Same F1 F ∧ Ok K F0 H0 F H σ Γ4, fun σ' H' ⟨F', a, b⟩ => ⟨ds.length - (i + 1), by omega, Γ4, F', rfl, by omega, by rw [hr]; exact hl, a, b⟩, fun x H3 hy => ?_⟩
        obtain ⟨F3, d', g3, hd', rx⟩ := wk.yl i x F2 H2 H3 s2 ok2.g.s hlt hy
        rw [hd] at hd'
        cases hd'
        refine hg F0 H0 F3 H3 σ2 x (ok3.grow g3) rx _ fun σ4 ok4 _ => ?_
        have base : Same F1 F3 := s2.trans g3.f
        exact hs F0 H0 F3 H3 σ4 _ ok4 ⟨fun F5 H5 σ5 e5 ok5 => ⟨F5, base.trans e5, ok5⟩, fun F5 H5 σ5 e5 ok5 => ⟨F5, base.trans e5, ok5⟩⟩
      · obtain ⟨hlt, hd, hr⟩ := out e
        refine .inr ⟨wk.go i F2 H2 s2 ok2.g.s hlt, fun _ _ => False, fun _ _ z => z.elim, fun x H3 hy => ?_⟩
        obtain ⟨F3, d', g3, hd', rx⟩ := wk.yl i x F2 H2 H3 s2 ok2.g.s hlt hy
        rw [hd] at hd'
        cases hd'
        refine hg F0 H0 F3 H3 σ2 x (ok3.grow g3) rx _ fun σ4 ok4 _ => ?_
        exact hs F0 H0 F3 H3 σ4 _ ok4 (fin.out ho rfl)⟩
end
end DL

namespace DL
open PySem PySem.Spec PyProof.Rows L2
section
variable {K : PySem.W.Frag} {E : XK} {Γ Γ' Γ1 Γ2 : Gam} {ta tb te tx tl : TE} {t u : TT} {d dx dy : D} {ds es : List D} {tas tr : TA} {ts tu : TS} {o : Oc} {g : TG} {gs : TGs} {js ks : List Nat} {C : Addr}
theorem et_yes : Et K tYes Γ true := fun F0 H0 F H σ ok Q q => q F H (Gr.refl ok.g.s)
/-! ### walks -/
theorem wk_list {F : Hp} {a : Addr} {xs : List V} (h : SqL K F a xs) (r : RpA K F xs ds) : Wk K (Itl K a) F ds where
  go := fun i F2 H2 e s hi => by
    obtain ⟨v, hv, _⟩ := r.get (List.getElem?_eq_getElem hi)
    exact ⟨xs, v, (e.trans s).seq h, hv⟩
  st := fun F2 H2 e s => ⟨xs, (e.trans s).seq h, Nat.le_of_eq r.len⟩
  yl := fun i x F2 H2 H3 e s hi y => by
    obtain ⟨rfl, y⟩ := y
    obtain ⟨d, hd, rd⟩ := r.getV (y xs ((e.trans s).seq h))
    exact ⟨F2, d, Gr.refl s, hd, rd.mono e⟩
theorem ei_list (h : Ed K tl Γ (.lst ds)) : Ei K (iList K tl) Γ ds := fun F0 H0 F H σ ok R k => h F0 H0 F H σ ok _ fun v F1 H1 g1 r1 => by
  cases r1 with
  | @lst a xs _ ha ra => exact ⟨a, rfl, ⟨xs, .inl (.inl (g1.s _ _ ha))⟩, k _ F1 H1 g1 (wk_list (.inl (.inl ha)) ra)⟩
theorem ei_scr {ns : List Int} (h : Ed K tl Γ (.scr ns)) : Ei K (iList K tl) Γ (ns.map .int) := fun F0 H0 F H σ ok R k => h F0 H0 F H σ ok _ fun v F1 H1 g1 r1 => by
  cases r1 with
  | @scr a _ ha => exact ⟨a, rfl, ⟨_, g1.s.seq ha⟩, k _ F1 H1 g1 (wk_list ha (.ofInts ns))⟩
theorem ei_tup (h : Ed K tl Γ (.tup ds)) : Ei K (iTup K tl) Γ ds := fun F0 H0 F H σ ok R k => h F0 H0 F H σ ok _ fun v F1 H1 g1 r1 => by
  cases r1 with
  | @tup a xs _ ha ra =>
    refine ⟨a, rfl, ⟨xs, sqt_mono g1.s ha⟩, k _ F1 H1 g1 ⟨fun i F2 H2 e s hi => ?_, fun F2 H2 e s => ⟨xs, sqt_mono (e.trans s) ha, Nat.le_of_eq ra.len⟩, fun i x F2 H2 H3 e s hi y => ?_⟩⟩
    · obtain ⟨v, hv, _⟩ := ra.get (List.getElem?_eq_getElem hi)
      exact ⟨xs, v, sqt_mono (e.trans s) ha, hv⟩
    · obtain ⟨rfl, y⟩ := y
      obtain ⟨d, hd, rd⟩ := ra.getV (y xs (sqt_mono (e.trans s) ha))
      exact ⟨F2, d, Gr.refl s, hd, rd.mono e⟩
def rg (lo : Int) (n : Nat) : List D := (List.range n).map fun i => .int (lo + (i : Nat))
theorem rg_len (lo : Int) (n : Nat) : (rg lo n).length = n := by simp [rg]
theorem wk_rng {F : Hp} {lo : Int} {n : Nat} : Wk K (Itr lo n) F (rg lo n) where
  go := fun i F2 H2 e s hi => by rw [rg_len] at hi; exact hi
  st := fun F2 H2 e s => Nat.le_of_eq (rg_len lo n).symm
  yl := fun i x F2 H2 H3 e s hi y => by
    obtain ⟨rfl, rfl⟩ := y
    rw [rg_len] at hi
    exact ⟨F2, .int (lo + (i : Nat)), Gr.refl s, by simp [rg, hi], .int _⟩
theorem ei_rng1 {n : Int} (h : Ea K tas Γ [.int n]) (hn : -(2 ^ 62) ≤ n ∧ n < 2 ^ 62) : Ei K (iRng1 tas) Γ (rg 0 n.toNat) := fun F0 H0 F H σ ok R k => h F0 H0 F H σ ok _ fun v F1 H1 g1 r1 => by
  have e := RpA.ints (ns := [n]) r1
  exact ⟨n, e, hn.1, hn.2, k _ F1 H1 g1 wk_rng⟩
theorem ei_rng2 {lo n : Int} (h : Ea K tas Γ [.int lo, .int n]) (hn : -(2 ^ 62) ≤ lo ∧ lo < 2 ^ 62 ∧ -(2 ^ 62) ≤ n ∧ n < 2 ^ 62) : Ei K (iRng2 tas) Γ (rg lo (n - lo).toNat) := fun F0 H0 F H σ ok R k => h F0 H0 F H σ ok _ fun v F1 H1 g1 r1 => by
  have e := RpA.ints (ns := [lo, n]) r1
  exact ⟨lo, n, e, hn, k _ F1 H1 g1 wk_rng⟩
def sgn (x : Str) : List D := x.cps.toList.map fun c => .str ⟨#[c]⟩
theorem ei_str {x : Str} (h : Ed K te Γ (.str x)) : Ei K (iStr te) Γ (sgn x) := fun F0 H0 F H σ ok R k => h F0 H0 F H σ ok _ fun v F1 H1 g1 r1 => by
  cases r1
  have hl : (sgn x).length = x.cps.size := by simp [sgn]
  refine ⟨x, rfl, k _ F1 H1 g1 ⟨fun i F2 H2 e s hi => by rw [hl] at hi; exact hi, fun F2 H2 e s => Nat.le_of_eq hl.symm, fun i y F2 H2 H3 e s hi z => ?_⟩⟩
  obtain ⟨rfl, c, hc, rfl⟩ := z
  refine ⟨F2, .str ⟨#[c]⟩, Gr.refl s, ?_, .str _⟩
  have hc' : x.cps.toList[i]? = some c := by rw [Array.getElem?_toList]; exact hc
  simp only [sgn, List.getElem?_map, hc', Option.map_some]
theorem pair_new {F2 H2 : Hp} {T : Addr} {x y : V} {d e : D} (s : Same F2 H2) (hT : H2 T = none) (rx : Rp K F2 x d) (ry : Rp K F2 y e) : ∃ F3, Gr F2 H2 F3 (upd H2 T (.tup [x, y])) ∧ Rp K F3 (.ref T) (.tup [d, e]) := by
  have g2 := Gr.new (o := .tup [x, y]) s hT
  exact ⟨_, g2, .tup (.inl (.inl upd_same)) (.cons (rx.mono g2.f) (.cons (ry.mono g2.f) .nil))⟩
def zp (ds es : List D) : List D := (ds.zip es).map fun p => .tup [p.1, p.2]
theorem wk_zip {F : Hp} {a b : Addr} {xs ys : List V} (h1 : SqL K F a xs) (r1 : RpA K F xs ds) (h2 : SqL K F b ys) (r2 : RpA K F ys es) : Wk K (Itz K a b) F (zp ds es) := by
  have hl : (zp ds es).length = min ds.length es.length := by simp [zp]
  refine ⟨fun i F2 H2 e s hi => ?_, fun F2 H2 e s => ⟨xs, ys, (e.trans s).seq h1, (e.trans s).seq h2, by rw [r1.len, r2.len, hl]; omega⟩, fun i x F2 H2 H3 e s hi y => ?_⟩
  · rw [hl] at hi
    obtain ⟨v, hv, _⟩ := r1.get (List.getElem?_eq_getElem (show i < ds.length by omega))
    obtain ⟨w, hw, _⟩ := r2.get (List.getElem?_eq_getElem (show i < es.length by omega))
    exact ⟨xs, ys, v, w, (e.trans s).seq h1, (e.trans s).seq h2, hv, hw⟩
  · obtain ⟨T, v, w, rfl, hT, rfl, k1, k2⟩ := y
    obtain ⟨d, hd, rd⟩ := r1.getV (k1 xs ((e.trans s).seq h1))
    obtain ⟨d', hd', rd'⟩ := r2.getV (k2 ys ((e.trans s).seq h2))
    obtain ⟨F3, g3, rp⟩ := pair_new s hT (rd.mono e) (rd'.mono e)
    refine ⟨F3, _, g3, ?_, rp⟩
    have z : (ds.zip es)[i]? = some (d, d') := by
      rw [List.getElem?_zip_eq_some]
      exact ⟨hd, hd'⟩
    simp only [zp, List.getElem?_map, z, Option.map_some]
theorem ei_zip (h : Ea K tas Γ [.lst ds, .lst es]) : Ei K (iZip K tas) Γ (zp ds es) := fun F0 H0 F H σ ok R k => h F0 H0 F H σ ok _ fun v F1 H1 g1 r1 => by
  cases r1 with
  | cons ra rr =>
    cases rr with
    | cons rb rr =>
      cases rr
      cases ra with
      | @lst a xs _ ha ra =>
        cases rb with
        | @lst b ys _ hb rb => exact ⟨a, b, xs, ys, rfl, .inl (.inl (g1.s _ _ ha)), .inl (.inl (g1.s _ _ hb)), k _ F1 H1 g1 (wk_zip (.inl (.inl ha)) ra (.inl (.inl hb)) rb)⟩
def en (ds : List D) : List D := (ds.zipIdx).map fun p => .tup [.int (p.2 : Nat), p.1]
theorem ei_enum (h : Ea K tas Γ [.lst ds]) : Ei K (iEnum K tas) Γ (en ds) := fun F0 H0 F H σ ok R k => h F0 H0 F H σ ok _ fun v F1 H1 g1 r1 => by
  cases r1 with
  | cons ra rr =>
    cases rr
    cases ra with
    | @lst a xs _ ha ra =>
      have hl : (en ds).length = ds.length := by simp [en]
      refine ⟨a, xs, rfl, .inl (.inl (g1.s _ _ ha)), k _ F1 H1 g1 ⟨fun i F2 H2 e s hi => ?_, fun F2 H2 e s => ⟨xs, .inl (.inl ((e.trans s) _ _ ha)), by rw [ra.len, hl]; exact Nat.le_refl _⟩, fun i x F2 H2 H3 e s hi y => ?_⟩⟩
      · rw [hl] at hi
        obtain ⟨v, hv, _⟩ := ra.get (List.getElem?_eq_getElem hi)
        exact ⟨xs, v, .inl (.inl ((e.trans s) _ _ ha)), hv⟩
      · obtain ⟨T, v, rfl, hT, rfl, k1⟩ := y
        obtain ⟨d, hd, rd⟩ := ra.getV (k1 xs (.inl (.inl ((e.trans s) _ _ ha))))
        obtain ⟨F3, g3, rp⟩ := pair_new (x := .int (i : Nat)) (d := .int (i : Nat)) s hT (.int _) (rd.mono e)
        refine ⟨F3, _, g3, ?_, rp⟩
        simp [en, List.getElem?_zipIdx, hd]
theorem ei_rev (h : Ea K tas Γ [.lst ds]) : Ei K (iRev K tas) Γ ds.reverse := fun F0 H0 F H σ ok R k => h F0 H0 F H σ ok _ fun v F1 H1 g1 r1 => by
  cases r1 with
  | cons ra rr =>
    cases rr
    cases ra with
    | @lst a xs _ ha ra =>
      have w := @walk_rev K a xs
      refine ⟨a, xs, rfl, .inl (.inl (g1.s _ _ ha)), k _ F1 H1 g1 ⟨fun i F2 H2 e s hi => w.goes i H2 (by rw [ra.len]; simpa using hi) (.inl (.inl ((e.trans s) _ _ ha))), fun F2 H2 e s => ?_, fun i x F2 H2 H3 e s hi y => ?_⟩⟩
      · have z := w.stops H2 (.inl (.inl ((e.trans s) _ _ ha)))
        rw [ra.len] at z
        rw [List.length_reverse]
        rw [ra.len]
        exact z
      · have hi' : i < xs.length := by rw [ra.len]; simpa using hi
        obtain ⟨rfl, q⟩ := w.yields i H2 x H3 hi' (.inl (.inl ((e.trans s) _ _ ha))) y
        obtain ⟨d, hd, rd⟩ := ra.getV q
        refine ⟨F2, d, Gr.refl s, ?_, rd.mono e⟩
        rw [List.getElem?_reverse (by simpa using hi)]
        rw [← ra.len]
        exact hd
/-! ### comprehensions -/
theorem ew_lc {α : Type} {wi : TI} {vs : List Nat} (xs : List α) (enc : α → D) (b : α → Bool) (f : α → D) (hw : Ei K wi Γ (xs.map enc)) (hl : xs.length ≤ 100000)
    (h : ∀ x ∈ xs, ∃ js Γ1, Eg K g js (enc x) (wipeG Γ vs) Γ1 ∧ (∀ j ∈ js, j ∈ vs) ∧ Et K t Γ1 (b x) ∧ (b x = true → Ed K te Γ1 (f x))) : Ew K (tLc wi g t te vs) Γ ((xs.filter b).map f) := fun F0 H0 F H σ ok Q q =>
  hw F0 H0 F H σ ok _ fun J F1 H1 g1 wk D hD => by
    have hDH : H D = none := g1.h.free hD
    have hDF : F1 D = none := g1.s.free hD
    have set : ∀ {F' H' : Hp} {ws : List V}, Gr F H F' H' → F' D = none → Gr F H F' (upd H' D (.lst ws)) := fun {F' H' ws} g hf =>
      ⟨g.f, fun x y e => by rw [upd_ne (ne_of_none e hf)]; exact g.s x y e, fun x y e => by rw [upd_ne (ne_of_none e hDH)]; exact g.h x y e, g.n⟩
    let St := fun (i : Nat) (H' : Hp) => ∃ F' acc, i ≤ xs.length ∧ Same F1 F' ∧ Gr F H F' H' ∧ F' D = none ∧ H' D = some (.lst acc) ∧ RpA K F' acc (((xs.take i).filter b).map f)
    refine ⟨fun i m H' => m = xs.length - i ∧ St i H', ⟨xs.length, rfl, F1, [], Nat.zero_le _, Same.refl _, set g1 hDF, hDF, upd_same, .nil⟩, ?_⟩
    rintro i m H2 ⟨rfl, F2, acc, hi, s2, g2, f2, e2, r2⟩
    have lenx : (xs.map enc).length = xs.length := List.length_map _
    by_cases hlt : i < xs.length
    · refine .inr ⟨wk.go i F2 H2 s2 g2.s (by rw [lenx]; exact hlt), St (i + 1), fun H' z => ⟨xs.length - (i + 1), by omega, rfl, z⟩, fun x H3 hy => ?_⟩
      obtain ⟨F3, d, g3, hd, rx⟩ := wk.yl i x F2 H2 H3 s2 g2.s (by rw [lenx]; exact hlt) hy
      have hx : xs[i]? = some xs[i] := List.getElem?_eq_getElem hlt
      rw [List.getElem?_map, hx] at hd
      cases hd
      obtain ⟨js, Γ1, hg, hj, ht, he⟩ := h xs[i] (List.getElem_mem hlt)
      have g03 := g2.trans g3
      have f3 : F3 D = none ∧ H3 D = some (.lst acc) := g3.out f2 e2
      refine hg F0 H0 F3 H3 _ x ((ok.grow g03).wipe vs) rx _ fun σ4 ok4 wp => ⟨(wp vs hj).trans (wipe_wipe σ vs), ?_⟩
      refine ht F0 H0 F3 H3 σ4 ok4 _ fun F4 H4 g4 => ?_
      have f4 := g4.out f3.1 f3.2
      have tk : xs.take (i + 1) = xs.take i ++ [xs[i]] := by rw [List.take_add_one, hx]; rfl
      cases hb : b xs[i] with
      | true =>
        rw [if_pos rfl]
        refine he hb F0 H0 F4 H4 σ4 (ok4.grow g4) _ fun v F5 H5 g5 r5 => ?_
        have f5 := g5.out f4.1 f4.2
        have gg := (g03.trans g4).trans g5
        refine ⟨acc, f5.2, ?_, F5, acc ++ [v], by omega, ((s2.trans g3.f).trans g4.f).trans g5.f, set gg f5.1, f5.1, upd_same, ?_⟩
        · have z := r2.len
          rw [List.length_map] at z
          have z2 := List.length_filter_le b (xs.take i)
          rw [List.length_take] at z2
          have z3 : acc.length < 100000 := by omega
          exact Nat.lt_of_lt_of_le z3 (by decide)
        · have e : ((xs.take (i + 1)).filter b).map f = ((xs.take i).filter b).map f ++ [f xs[i]] := by
            rw [tk, List.filter_append, List.map_append, List.filter_cons, if_pos hb] <;> rfl
          rw [e]
          exact (r2.mono ((g3.f.trans g4.f).trans g5.f)).append (.one r5)
      | false =>
        rw [if_neg (by decide)]
        have gg := g03.trans g4
        refine ⟨F4, acc, by omega, (s2.trans g3.f).trans g4.f, gg, f4.1, f4.2, ?_⟩
        have e : ((xs.take (i + 1)).filter b).map f = ((xs.take i).filter b).map f := by
          rw [tk, List.filter_append, List.map_append, List.filter_cons, if_neg (by rw [hb]; decide)]
          simp
        rw [e]
        exact r2.mono (g3.f.trans g4.f)
    · have e : i = xs.length := by omega
      subst e
      refine .inl ⟨by have z := wk.st F2 H2 s2 g2.s; rw [lenx] at z; exact z, ?_⟩
      rw [List.take_length] at r2
      exact q D acc F2 H2 g2 hDH f2 e2 r2
theorem filter_all {α : Type} (xs : List α) : xs.filter (fun _ => true) = xs := by simp
theorem ew_map {α : Type} {wi : TI} {vs : List Nat} (xs : List α) (enc : α → D) (f : α → D) (hw : Ei K wi Γ (xs.map enc)) (hl : xs.length ≤ 100000)
    (h : ∀ x ∈ xs, ∃ js Γ1, Eg K g js (enc x) (wipeG Γ vs) Γ1 ∧ (∀ j ∈ js, j ∈ vs) ∧ Ed K te Γ1 (f x)) : Ew K (tLc wi g tYes te vs) Γ (xs.map f) := by
  have z := ew_lc (K := K) (Γ := Γ) (g := g) (t := tYes) (te := te) (vs := vs) xs enc (fun _ => true) f hw hl fun x hx => by
    obtain ⟨js, Γ1, a, b, c⟩ := h x hx
    exact ⟨js, Γ1, a, b, et_yes, fun _ => c⟩
  rw [filter_all] at z
  exact z
theorem ed_map {α : Type} {wi : TI} {vs : List Nat} (xs : List α) (enc : α → D) (f : α → D) (hw : Ei K wi Γ (xs.map enc)) (hl : xs.length ≤ 100000)
    (h : ∀ x ∈ xs, ∃ js Γ1, Eg K g js (enc x) (wipeG Γ vs) Γ1 ∧ (∀ j ∈ js, j ∈ vs) ∧ Ed K te Γ1 (f x)) : Ed K (tLc wi g tYes te vs) Γ (.lst (xs.map f)) := ed_ow (ew_map xs enc f hw hl h)
theorem ed_lc {α : Type} {wi : TI} {vs : List Nat} (xs : List α) (enc : α → D) (b : α → Bool) (f : α → D) (hw : Ei K wi Γ (xs.map enc)) (hl : xs.length ≤ 100000)
    (h : ∀ x ∈ xs, ∃ js Γ1, Eg K g js (enc x) (wipeG Γ vs) Γ1 ∧ (∀ j ∈ js, j ∈ vs) ∧ Et K t Γ1 (b x) ∧ (b x = true → Ed K te Γ1 (f x))) : Ed K (tLc wi g t te vs) Γ (.lst ((xs.filter b).map f)) := ed_ow (ew_lc xs enc b f hw hl h)
end
/-! ### promises -/
def spR (K : PySem.W.Frag) (S : List D → D → Prop) : Sp := fun vs H Q _ => ∃ F ds d, Same F H ∧ RpA K F vs ds ∧ S ds d ∧ ∀ v F' H', Gr F H F' H' → Rp K F' v d → Q v H'
def spX (K : PySem.W.Frag) (S : List D → D → Prop) (T : List D → Addr → Prop) : Sp := fun vs H Q E => ∃ F ds, Same F H ∧ RpA K F vs ds ∧
  ((∃ d, S ds d ∧ ∀ v F' H', Gr F H F' H' → Rp K F' v d → Q v H') ∨ (∃ C, T ds C ∧ ∀ F' H', Gr F H F' H' → E (.ref C) none H'))
section
variable {K : PySem.W.Frag} {E : XK} {Γ : Gam} {d : D} {ds : List D} {tas : TA} {S : List D → D → Prop} {T : List D → Addr → Prop} {C : Addr}
theorem ed_call {E' : XK} (h : Ea K tas Γ ds) (hs : S ds d) : Ed K (tCall (spR K S) [] E' tas) Γ d := fun F0 H0 F H σ ok Q q => h F0 H0 F H σ ok _ fun vs F1 H1 g1 r1 =>
  ⟨F1, ds, d, g1.s, by rw [List.append_nil]; exact r1, hs, fun v F2 H2 g2 r2 => q v F2 H2 (g1.trans g2) r2⟩
theorem ed_callX {E' : XK} (h : Ea K tas Γ ds) (hs : S ds d) : Ed K (tCall (spX K S T) [] E' tas) Γ d := fun F0 H0 F H σ ok Q q => h F0 H0 F H σ ok _ fun vs F1 H1 g1 r1 =>
  ⟨F1, ds, g1.s, by rw [List.append_nil]; exact r1, .inl ⟨d, hs, fun v F2 H2 g2 r2 => q v F2 H2 (g1.trans g2) r2⟩⟩
theorem xd_callX (h : Ea K tas Γ ds) (hs : T ds C) : Xd K E (tCall (spX K S T) [] E tas) Γ C := fun F0 H0 F H σ ok fin Q => h F0 H0 F H σ ok _ fun vs F1 H1 g1 r1 =>
  ⟨F1, ds, g1.s, by rw [List.append_nil]; exact r1, .inr ⟨C, hs, fun F2 H2 g2 => fin F2 H2 (g1.trans g2)⟩⟩
theorem xd_callA {sp : Sp} (h : Xa K E tas Γ C) {E' : XK} : Xd K E (tCall sp [] E' tas) Γ C := fun F0 H0 F H σ ok fin Q => h F0 H0 F H σ ok fin _
end
/-- .. the result a new list that nobody else holds -/
def spW (K : PySem.W.Frag) (S : List D → List D → Prop) : Sp := fun vs H Q _ => ∃ F ds es, Same F H ∧ RpA K F vs ds ∧ S ds es ∧ ∀ p ws F' H', Gr F H F' H' → H p = none → F' p = none → H' p = some (.lst ws) → RpA K F' ws es → Q (.ref p) H'
def spXW (K : PySem.W.Frag) (S : List D → List D → Prop) (T : List D → Addr → Prop) : Sp := fun vs H Q E => ∃ F ds, Same F H ∧ RpA K F vs ds ∧
  ((∃ es, S ds es ∧ ∀ p ws F' H', Gr F H F' H' → H p = none → F' p = none → H' p = some (.lst ws) → RpA K F' ws es → Q (.ref p) H') ∨ (∃ C, T ds C ∧ ∀ F' H', Gr F H F' H' → E (.ref C) none H'))
section
variable {K : PySem.W.Frag} {E : XK} {Γ : Gam} {ds es : List D} {tas : TA} {S : List D → List D → Prop} {T : List D → Addr → Prop} {C : Addr}
theorem ew_call {E' : XK} (h : Ea K tas Γ ds) (hs : S ds es) : Ew K (tCall (spW K S) [] E' tas) Γ es := fun F0 H0 F H σ ok Q q => h F0 H0 F H σ ok _ fun vs F1 H1 g1 r1 =>
  ⟨F1, ds, es, g1.s, by rw [List.append_nil]; exact r1, hs, fun p ws F2 H2 g2 hp hf h2 r2 => q p ws F2 H2 (g1.trans g2) (g1.h.free hp) hf h2 r2⟩
theorem ew_callX {E' : XK} (h : Ea K tas Γ ds) (hs : S ds es) : Ew K (tCall (spXW K S T) [] E' tas) Γ es := fun F0 H0 F H σ ok Q q => h F0 H0 F H σ ok _ fun vs F1 H1 g1 r1 =>
  ⟨F1, ds, g1.s, by rw [List.append_nil]; exact r1, .inl ⟨es, hs, fun p ws F2 H2 g2 hp hf h2 r2 => q p ws F2 H2 (g1.trans g2) (g1.h.free hp) hf h2 r2⟩⟩
theorem xd_callXW (h : Ea K tas Γ ds) (hs : T ds C) : Xd K E (tCall (spXW K S T) [] E tas) Γ C := fun F0 H0 F H σ ok fin Q => h F0 H0 F H σ ok _ fun vs F1 H1 g1 r1 =>
  ⟨F1, ds, g1.s, by rw [List.append_nil]; exact r1, .inr ⟨C, hs, fun F2 H2 g2 => fin F2 H2 (g1.trans g2)⟩⟩
end
def startG (N : List Str) (ds : List D) : Gam := ds.map .fz ++ List.replicate (N.length - ds.length) .no
section
variable {K : PySem.W.Frag} {E : XK} {d : D} {ds : List D} {N : List Str} {F H : Hp} {vs : List V} {ts : TS} {Q : VK}
theorem ok_start (e : Same F H) (r : RpA K F vs ds) : Ok K F H F H (L2.start N vs) (startG N ds) := by
  have hl := r.len
  have noOw : ∀ (i : Nat) (es : Ow), ¬ (startG N ds)[i]? = some (.own es) := fun i es h => by
    unfold startG at h
    rw [List.getElem?_append] at h
    split at h
    · rw [List.getElem?_map] at h
      cases q : ds[i]? with
      | none => rw [q] at h; cases h
      | some x => rw [q] at h; cases h
    · rw [List.getElem?_replicate] at h
      split at h <;> cases h
  refine ⟨Gr.refl e, ?_, fun i d h => ?_, fun i es h => absurd h (noOw i es), fun i j es fs p hij h1 h2 => absurd h1 (noOw i es)⟩
  · unfold startG L2.start
    simp only [List.length_append, List.length_map, List.length_replicate, hl]
  · unfold startG at h
    rw [List.getElem?_append] at h
    split at h
    · rename_i hi
      rw [List.length_map] at hi
      rw [List.getElem?_map] at h
      cases q : ds[i]? with
      | none => rw [q] at h; cases h
      | some x =>
        rw [q] at h
        cases h
        obtain ⟨v, hv, rv⟩ := r.get q
        refine ⟨v, ?_, rv⟩
        unfold L2.start
        rw [List.getElem?_append_left (by rw [List.length_map, hl]; exact hi), List.getElem?_map, hv]
        rfl
    · rw [List.getElem?_replicate] at h
      split at h <;> cases h
theorem run_rt (h : Sd K E ts (startG N ds) (.rt d)) (e : Same F H) (r : RpA K F vs ds) (q : ∀ v F' H', Gr F H F' H' → Rp K F' v d → Q v H') : ts { nx := fun _ H' => Q .non H', rt := Q } (L2.start N vs) H :=
  h F H F H _ _ (ok_start e r) fun v F' H' g1 r1 => q v F' H' g1 r1
theorem run_rw {es : List D} (h : Sd K E ts (startG N ds) (.rw es)) (e : Same F H) (r : RpA K F vs ds) (q : ∀ p ws F' H', Gr F H F' H' → H p = none → F' p = none → H' p = some (.lst ws) → RpA K F' ws es → Q (.ref p) H') : ts { nx := fun _ H' => Q .non H', rt := Q } (L2.start N vs) H :=
  h F H F H _ _ (ok_start e r) q
theorem run_nx {Γ : Gam} (h : Sd K E ts (startG N ds) (.nx Γ)) (e : Same F H) (r : RpA K F vs ds) (q : ∀ v F' H', Gr F H F' H' → Rp K F' v .non → Q v H') : ts { nx := fun _ H' => Q .non H', rt := Q } (L2.start N vs) H :=
  h F H F H _ _ (ok_start e r) fun F' H' σ' _ ok => q _ F' H' ok.g .non
theorem run_ex {C : Addr} (h : Sd K E ts (startG N ds) (.ex C)) (e : Same F H) (r : RpA K F vs ds) (q : ∀ F' H', Gr F H F' H' → E (.ref C) none H') : ts { nx := fun _ H' => Q .non H', rt := Q } (L2.start N vs) H :=
  h F H F H _ _ (ok_start e r) q
end
section
variable {P : Program} {w : World} {K : PySem.W.Frag} {mg : Str → Option Value} {base : Heap} {x qual : Str} {st : Stmt} {f : Addr} {fd : FuncData} {N ps : List Str} {k : Nat} {S : List D → D → Prop} {T : List D → Addr → Prop}
/-- a def that returns -/
theorem fnR (F : Fun K x qual st f fd) (sc : FnScope N ps (defScope st)) (len : ∀ ds d, S ds d → ds.length = ps.length)
    (body : ∀ (cdv : Value) (A : Around) (outer : List Env) (s : Shared) (H : Hp) (E : XK), Room k (A.deeper (envOfC qual (defScope st) s.heap.objs.size f cdv)) →
      ∃ t, PSs (cxOf CX0 P w K mg base N qual (defScope st) f cdv A outer s H E).nox (defBody st) t ∧ ∀ ds d, S ds d → Sd K E0 t (startG N ds) (.rt d)) : FnOk P w K mg base CX0 (k + 1) f fd ps (spR K S) :=
  F.ok sc (fun vs H Q E h => by
    obtain ⟨F', ds, d, e, r, hs, q⟩ := h
    rw [r.len]
    exact len ds d hs) fun cdv A outer s H vs Q E hr h => by
    obtain ⟨F', ds, d, e, r, hs, q⟩ := h
    obtain ⟨t, ht, hd⟩ := body cdv A outer s H E hr
    exact ⟨t, ht, run_rt (hd ds d hs) e r q⟩
/-- a def that may raise -/
theorem fnX (F : Fun K x qual st f fd) (sc : FnScope N ps (defScope st)) (len : ∀ ds d, S ds d → ds.length = ps.length) (len2 : ∀ ds C, T ds C → ds.length = ps.length)
    (body : ∀ (cdv : Value) (A : Around) (outer : List Env) (s : Shared) (H : Hp) (E : XK), Room k (A.deeper (envOfC qual (defScope st) s.heap.objs.size f cdv)) →
      ∃ t, PSs (cxOf (L2.CX P w) P w K mg base N qual (defScope st) f cdv A outer s H E) (defBody st) t ∧ (∀ ds d, S ds d → Sd K E t (startG N ds) (.rt d)) ∧ (∀ ds C, T ds C → Sd K E t (startG N ds) (.ex C))) : FnOk P w K mg base (L2.CX P w) (k + 1) f fd ps (spX K S T) :=
  F.okX sc (fun vs H Q E h => by
    obtain ⟨F', ds, e, r, ⟨d, hs, q⟩ | ⟨C, hs, q⟩⟩ := h
    · rw [r.len]
      exact len ds d hs
    · rw [r.len]
      exact len2 ds C hs) fun cdv A outer s H vs Q E hr h => by
    obtain ⟨F', ds, e, r, h⟩ := h
    obtain ⟨t, ht, hd, hx⟩ := body cdv A outer s H E hr
    refine ⟨t, ht, ?_⟩
    rcases h with ⟨d, hs, q⟩ | ⟨C, hs, q⟩
    · exact run_rt (hd ds d hs) e r q
    · exact run_ex (hx ds C hs) e r q
end
end DL

namespace DL
open PySem PySem.Spec PyProof.Rows L2
/-! ### operators by values -/
def CBig (i j : Int) : Prop := i.natAbs.log2 + j.natAbs.log2 < 100000000
theorem CBig.ok {i j : Int} (h : CBig i j) : IntMulOk i j := by
  have b : ∀ x : Int, Builtin.Int.intBits x ≤ x.natAbs.log2 + 1 := fun x => by
    unfold Builtin.Int.intBits
    split <;> omega
  have h1 := b i
  have h2 := b j
  have h3 : i.natAbs.log2 + j.natAbs.log2 < 100000000 := h
  have e : bitsLine = 134217728 := by decide
  unfold IntMulOk
  intro z
  rw [Bool.and_eq_true] at z
  have z2 := z.2
  unfold Builtin.Int.intTooBig at z2
  have z3 := of_decide_eq_true z2
  rw [e] at z3
  omega
theorem log2_le {n a : Nat} (h : n < 2 ^ a) (ha : 0 < a) : n.log2 < a := by
  by_cases h0 : n = 0
  · subst h0; simp; exact ha
  · exact (Nat.log2_lt h0).mpr h
theorem CBig.of {i j : Int} {a b : Nat} (ha : i.natAbs < 2 ^ a) (hb : j.natAbs < 2 ^ b) (h0 : 0 < a) (h1 : 0 < b) (h : a + b ≤ 100000000) : CBig i j := by
  have x := log2_le ha h0
  have y := log2_le hb h1
  unfold CBig
  omega
def rAddA : R2 := fun x y H Q => rI0 (fun i j => .int (i + j)) x y H Q ∨ ((fun x y H Q => ∃ i j, x = .str i ∧ y = .str j ∧ i.length + j.length ≤ sizeLine ∧ Q (.str (i ++ j)) H) x y H Q ∨ rCat x y H Q)
def rMulA : R2 := fun x y H Q => rI CBig (fun i j => .int (i * j)) x y H Q ∨ rRep x y H Q
def CFd (i j : Int) : Prop := j ≠ 0 ∧ j.natAbs.log2 < 9000
def rFdA : R2 := rI CFd fun i j => .int (i.fdiv j)
def rLtA : R2 := fun x y H Q => rI0 (fun i j => .bl (decide (i < j))) x y H Q ∨ (fun x y H Q => ∃ i j, x = .str i ∧ y = .str j ∧ Q (.bl (decide (i.cps.toList < j.cps.toList))) H) x y H Q
def rLeA : R2 := fun x y H Q => rI0 (fun i j => .bl (decide (i ≤ j))) x y H Q ∨ (fun x y H Q => ∃ i j, x = .str i ∧ y = .str j ∧ Q (.bl (!decide (j.cps.toList < i.cps.toList))) H) x y H Q
section
variable {X : Cx}
theorem opAdd : OpR X (binaryOp .Add) rAddA := op_add.or (op_add_str.or op_cat)
theorem opMul : OpR X (binaryOp .Mult) rMulA := OpR.or (opI fun _ _ _ _ _ _ _ hc q => mul_int q hc.ok) op_rep
theorem opFd : OpR X (binaryOp .FloorDiv) rFdA := opI fun i j _ _ _ _ _ hc q => floordiv_int hc.1 q (.inl (PyProof.noPylong_of_log2 hc.2))
theorem opLt : OpR X (compareOp .Lt) rLtA := op_lt.or op_lt_str
theorem opLe : OpR X (compareOp .LtE) rLeA := op_le.or op_le_str
end
/-! ### plain data -/
mutual
def D.py : D → PyData
  | .non => .none
  | .bl b => .bool b
  | .int i => .int i
  | .str x => .str x
  | .lst ds => .list (D.pyA ds)
  | .tup ds => .tuple (D.pyA ds)
  | .dct => .none
  | .scr _ => .none
  | .adr _ => .none
  | .ty _ => .none
  | .ins _ _ => .none
def D.pyA : List D → List PyData
  | [] => []
  | d :: ds => D.py d :: D.pyA ds
end
theorem pyA_map (ds : List D) : D.pyA ds = ds.map D.py := by
  induction ds with
  | nil => rfl
  | cons d ds ih => simp only [D.pyA, List.map_cons, ih]
inductive Pl : Nat → D → Prop
  | non {n : Nat} : Pl n .non
  | bl {n : Nat} (b : Bool) : Pl n (.bl b)
  | int {n : Nat} (i : Int) : Pl n (.int i)
  | str {n : Nat} {x : Str} (h : PyData.strOk x = true) : Pl n (.str x)
  | lst {n : Nat} {ds : List D} : (∀ d ∈ ds, Pl n d) → Pl (n + 1) (.lst ds)
  | tup {n : Nat} {ds : List D} : (∀ d ∈ ds, Pl n d) → Pl (n + 1) (.tup ds)
theorem Pl.mono {n m : Nat} {d : D} (h : Pl n d) : n ≤ m → Pl m d := by
  induction h generalizing m with
  | non => exact fun _ => .non
  | bl b => exact fun _ => .bl b
  | int i => exact fun _ => .int i
  | str h => exact fun _ => .str h
  | lst h ih =>
    intro hm
    obtain ⟨k, rfl⟩ : ∃ k, m = k + 1 := ⟨m - 1, by omega⟩
    exact .lst fun d hd => ih d hd (by omega)
  | tup h ih =>
    intro hm
    obtain ⟨k, rfl⟩ : ∃ k, m = k + 1 := ⟨m - 1, by omega⟩
    exact .tup fun d hd => ih d hd (by omega)
section
variable {K : PySem.W.Frag} {H : Hp}
theorem dp_all : ∀ {vs : List V} {ds : List D}, RpA K H vs ds → (∀ d ∈ ds, ∀ v, Rp K H v d → Dp K H v d.py) → DpAll K H vs (D.pyA ds)
  | _, _, .nil, _ => .nil
  | _, _, .cons h t, f => .cons (f _ List.mem_cons_self _ h) (dp_all t fun d hd => f d (List.mem_cons_of_mem _ hd))
theorem dp_of {n : Nat} {d : D} (h : Pl n d) : ∀ {v : V}, Rp K H v d → Dp K H v d.py := by
  induction h with
  | non => intro v r; cases r; exact .non
  | bl b => intro v r; cases r; exact .bl b
  | int i => intro v r; cases r; exact .int i
  | str h => intro v r; cases r; exact .str _
  | lst h ih =>
    intro v r
    cases r with
    | lst hs ha =>
      simp only [D.py]
      exact .lst (.inl (.inl hs)) (dp_all ha fun d hd v => ih d hd)
  | tup h ih =>
    intro v r
    cases r with
    | tup hs ha =>
      simp only [D.py]
      exact .tup hs (dp_all ha fun d hd v => ih d hd)
end
theorem canAll {ds : List D} (h : ∀ d ∈ ds, d.py.canLay0 = true) : PyData.canLayAll0 (D.pyA ds) = true := by
  induction ds with
  | nil => simp only [D.pyA, PyData.canLayAll0]
  | cons d ds ih =>
    simp only [D.pyA, PyData.canLayAll0, h d List.mem_cons_self, ih fun x hx => h x (List.mem_cons_of_mem _ hx), Bool.and_self]
theorem depAll {n : Nat} {ds : List D} (h : ∀ d ∈ ds, d.py.depth ≤ n) : PyData.depthAll (D.pyA ds) ≤ n := by
  induction ds with
  | nil => simp only [D.pyA, PyData.depthAll]; omega
  | cons d ds ih =>
    simp only [D.pyA, PyData.depthAll]
    have h1 := h d List.mem_cons_self
    have h2 := ih fun x hx => h x (List.mem_cons_of_mem _ hx)
    omega
theorem pl_can {n : Nat} {d : D} (h : Pl n d) : d.py.canLay0 = true := by
  induction h with
  | non => rfl
  | bl b => rfl
  | int i => rfl
  | str h => simpa [D.py, PyData.canLay0] using h
  | lst h ih => simp only [D.py, PyData.canLay0]; exact canAll ih
  | tup h ih => simp only [D.py, PyData.canLay0]; exact canAll ih
theorem pl_dep {n : Nat} {d : D} (h : Pl n d) : d.py.depth ≤ n + 1 := by
  induction h with
  | non => simp [D.py, PyData.depth]
  | bl b => simp [D.py, PyData.depth]
  | int i => simp [D.py, PyData.depth]
  | str h => simp [D.py, PyData.depth]
  | lst h ih => simp only [D.py, PyData.depth]; have := depAll ih; omega
  | tup h ih => simp only [D.py, PyData.depth]; have := depAll ih; omega
theorem pl_shaped {n : Nat} {d : D} (h : Pl n d) (hn : n ≤ 60) : SeqAt.shaped d.py = true := by
  unfold SeqAt.shaped
  rw [pl_can h, Bool.true_and]
  have := pl_dep h
  exact decide_eq_true (by omega)
def eqD (d e : D) : Bool := PyData.eqv d.py e.py
/-! ### what they give -/
section
variable {K : PySem.W.Frag} {d dx dy : D} {ds es : List D} {i j : Int} {x y : Str}
theorem r2_addI : R2D K rAddA (.int i) (.int j) (.int (i + j)) := fun F H v w s rv rw Q q => by
  cases rv; cases rw
  exact .inl ⟨i, j, rfl, rfl, q _ F H (Gr.refl s) (.int _)⟩
theorem r2_addS (h : x.length + y.length ≤ 100000) : R2D K rAddA (.str x) (.str y) (.str (x ++ y)) := fun F H v w s rv rw Q q => by
  cases rv; cases rw
  exact .inr (.inl ⟨x, y, rfl, rfl, Nat.le_trans h (by decide), q _ F H (Gr.refl s) (.str _)⟩)
theorem r2_addL (h : ds.length + es.length ≤ 100000) : R2D K rAddA (.lst ds) (.lst es) (.lst (ds ++ es)) := fun F H v w s rv rw Q q => by
  cases rv with
  | @lst a xs _ ha ra =>
    cases rw with
    | @lst b ys _ hb rb =>
      refine .inr (.inr ⟨a, b, xs, ys, rfl, rfl, s _ _ ha, s _ _ hb, Nat.le_trans (by rw [ra.len, rb.len]; exact h) (by decide), fun p hp => ?_⟩)
      have g := Gr.new (o := .lst (xs ++ ys)) s hp
      exact q _ _ _ g (.lst upd_same ((ra.append rb).mono g.f))
theorem r2_subI : R2D K (rI0 fun i j => .int (i - j)) (.int i) (.int j) (.int (i - j)) := fun F H v w s rv rw Q q => by
  cases rv; cases rw
  exact ⟨i, j, rfl, rfl, q _ F H (Gr.refl s) (.int _)⟩
theorem r2_mulI (h : CBig i j) : R2D K rMulA (.int i) (.int j) (.int (i * j)) := fun F H v w s rv rw Q q => by
  cases rv; cases rw
  exact .inl ⟨i, j, rfl, rfl, h, q _ F H (Gr.refl s) (.int _)⟩
theorem r2_mulL (h : ds.length * i.toNat ≤ 100000) (hi : -(2 ^ 63) ≤ i ∧ i < 2 ^ 63) : R2D K rMulA (.lst ds) (.int i) (.lst (List.replicate i.toNat ds).flatten) := fun F H v w s rv rw Q q => by
  cases rw
  cases rv with
  | @lst a xs _ ha ra =>
    refine .inr ⟨a, i, xs, rfl, rfl, s _ _ ha, hi.1, hi.2, Nat.le_trans (by rw [ra.len]; exact h) (by decide), fun p hp => ?_⟩
    have g := Gr.new (o := .lst (List.replicate i.toNat xs).flatten) s hp
    exact q _ _ _ g (.lst upd_same ((ra.rep _).mono g.f))
theorem r2_mod (h : 0 < j) : R2D K (rI (fun _ j => 0 < j) fun i j => .int (i % j)) (.int i) (.int j) (.int (i % j)) := fun F H v w s rv rw Q q => by
  cases rv; cases rw
  exact ⟨i, j, rfl, rfl, h, q _ F H (Gr.refl s) (.int _)⟩
theorem r2_fd (h : CFd i j) : R2D K rFdA (.int i) (.int j) (.int (i.fdiv j)) := fun F H v w s rv rw Q q => by
  cases rv; cases rw
  exact ⟨i, j, rfl, rfl, h, q _ F H (Gr.refl s) (.int _)⟩
theorem r2_fdP (h : 0 < j) (hj : j.natAbs.log2 < 9000 := by decide) : R2D K rFdA (.int i) (.int j) (.int (i / j)) := by
  have e : i.fdiv j = i / j := Int.fdiv_eq_ediv_of_nonneg i (by omega)
  rw [← e]
  exact r2_fd ⟨by omega, hj⟩
theorem r2_pow (h : CPow i j) : R2D K (rI CPow fun i j => .int (i ^ j.toNat)) (.int i) (.int j) (.int (i ^ j.toNat)) := fun F H v w s rv rw Q q => by
  cases rv; cases rw
  exact ⟨i, j, rfl, rfl, h, q _ F H (Gr.refl s) (.int _)⟩
theorem r2_ltI : R2D K rLtA (.int i) (.int j) (.bl (decide (i < j))) := fun F H v w s rv rw Q q => by
  cases rv; cases rw
  exact .inl ⟨i, j, rfl, rfl, q _ F H (Gr.refl s) (.bl _)⟩
theorem r2_leI : R2D K rLeA (.int i) (.int j) (.bl (decide (i ≤ j))) := fun F H v w s rv rw Q q => by
  cases rv; cases rw
  exact .inl ⟨i, j, rfl, rfl, q _ F H (Gr.refl s) (.bl _)⟩
theorem r2_ltS : R2D K rLtA (.str x) (.str y) (.bl (decide (x.cps.toList < y.cps.toList))) := fun F H v w s rv rw Q q => by
  cases rv; cases rw
  exact .inr ⟨x, y, rfl, rfl, q _ F H (Gr.refl s) (.bl _)⟩
theorem r2_leS : R2D K rLeA (.str x) (.str y) (.bl (!decide (y.cps.toList < x.cps.toList))) := fun F H v w s rv rw Q q => by
  cases rv; cases rw
  exact .inr ⟨x, y, rfl, rfl, q _ F H (Gr.refl s) (.bl _)⟩
theorem r2_gt : R2D K (rI0 fun i j => .bl (decide (j < i))) (.int i) (.int j) (.bl (decide (j < i))) := fun F H v w s rv rw Q q => by
  cases rv; cases rw
  exact ⟨i, j, rfl, rfl, q _ F H (Gr.refl s) (.bl _)⟩
theorem r2_ge : R2D K (rI0 fun i j => .bl (decide (j ≤ i))) (.int i) (.int j) (.bl (decide (j ≤ i))) := fun F H v w s rv rw Q q => by
  cases rv; cases rw
  exact ⟨i, j, rfl, rfl, q _ F H (Gr.refl s) (.bl _)⟩
theorem r2_eq {n m : Nat} (h1 : Pl n dx) (h2 : Pl m dy) (hn : n ≤ 60 := by decide) (hm : m ≤ 60 := by decide) : R2D K (rEqD K) dx dy (.bl (eqD dx dy)) := fun F H v w s rv rw Q q =>
  ⟨_, _, dp_of h1 (rv.mono s), dp_of h2 (rw.mono s), pl_shaped h1 hn, pl_shaped h2 hm, q _ F H (Gr.refl s) (.bl _)⟩
theorem r2_ne {n m : Nat} (h1 : Pl n dx) (h2 : Pl m dy) (hn : n ≤ 60 := by decide) (hm : m ≤ 60 := by decide) : R2D K (rNeD K) dx dy (.bl (!eqD dx dy)) := fun F H v w s rv rw Q q =>
  ⟨_, _, dp_of h1 (rv.mono s), dp_of h2 (rw.mono s), pl_shaped h1 hn, pl_shaped h2 hm, q _ F H (Gr.refl s) (.bl _)⟩
theorem r2_eqI : R2D K (rEqD K) (.int i) (.int j) (.bl (decide (i = j))) := r2_eq (.int (n := 0) i) (.int (n := 0) j)
theorem r2_neI : R2D K (rNeD K) (.int i) (.int j) (.bl (!decide (i = j))) := r2_ne (.int (n := 0) i) (.int (n := 0) j)
theorem ixn_map {α β : Type} {xs : List α} {ys : List β} (h : xs.length = ys.length) (i : Int) : ixN xs.length i = ixN ys.length i := by rw [h]
theorem atI_rp {F : Hp} {xs : List V} (r : RpA K F xs ds) (h : atI ds i = some d) : ∃ v, atI xs i = some v ∧ Rp K F v d := by
  unfold atI at h ⊢
  rw [r.len]
  cases q : ixN ds.length i with
  | none => rw [q] at h; cases h
  | some j =>
    rw [q] at h
    exact r.get h
theorem r2_ixL (h : atI ds i = some d) : R2D K (rIx K) (.lst ds) (.int i) d := fun F H v w s rv rw Q q => by
  cases rw
  cases rv with
  | @lst a xs _ ha ra =>
    obtain ⟨z, hz, rz⟩ := atI_rp ra h
    exact .inl ⟨a, xs, i, z, rfl, rfl, .inl (.inl (s _ _ ha)), hz, q _ F H (Gr.refl s) rz⟩
theorem r2_ixT (h : atI ds i = some d) : R2D K (rIx K) (.tup ds) (.int i) d := fun F H v w s rv rw Q q => by
  cases rw
  cases rv with
  | @tup a xs _ ha ra =>
    obtain ⟨z, hz, rz⟩ := atI_rp ra h
    exact .inr (.inl ⟨a, xs, i, z, rfl, rfl, sqt_mono s ha, hz, q _ F H (Gr.refl s) rz⟩)
theorem r2_ixP {ns : List Int} {n : Int} (h : atI ns i = some n) : R2D K (rIx K) (.scr ns) (.int i) (.int n) := fun F H v w s rv rw Q q => by
  cases rw
  cases rv with
  | @scr a _ ha =>
    refine .inl ⟨a, _, i, .int n, rfl, rfl, s.seq ha, ?_, q _ F H (Gr.refl s) (.int n)⟩
    unfold atI at h ⊢
    rw [List.length_map]
    cases z : ixN ns.length i with
    | none => rw [z] at h; cases h
    | some j =>
      rw [z] at h
      have h' : ns[j]? = some n := h
      simp [h']
theorem r2_ixS {c : Nat} (hz : x.length ≤ 100000) (h : atI x.cps.toList i = some c) : R2D K (rIx K) (.str x) (.int i) (.str ⟨#[c]⟩) := fun F H v w s rv rw Q q => by
  cases rv; cases rw
  exact .inr (.inr ⟨x, i, c, rfl, rfl, Nat.le_trans hz (by decide), h, q _ F H (Gr.refl s) (.str _)⟩)
theorem r2_isB {a b : Bool} : R2D K rIsB (.bl a) (.bl b) (.bl (decide (a = b))) := fun F H v w s rv rw Q q => by
  cases rv; cases rw
  exact ⟨a, b, rfl, rfl, q _ F H (Gr.refl s) (.bl _)⟩
theorem r2_notB {a b : Bool} : R2D K rNotB (.bl a) (.bl b) (.bl (!decide (a = b))) := fun F H v w s rv rw Q q => by
  cases rv; cases rw
  exact ⟨a, b, rfl, rfl, q _ F H (Gr.refl s) (.bl _)⟩
theorem r1_neg : R1D K (rU fun i => .int (-i)) (.int i) (.int (-i)) := fun F H v s rv Q q => by
  cases rv
  exact ⟨i, rfl, q _ F H (Gr.refl s) (.int _)⟩
/-! built-ins -/
theorem rc_abs : RcD K (fun xs H Q => ∃ i, xs = [.int i] ∧ Q (.int (if i < 0 then -i else i)) H) [.int i] (.int i.natAbs) := fun F H vs s r Q q => by
  have e := RpA.ints (ns := [i]) r
  refine ⟨i, e, ?_⟩
  have z : (if i < 0 then -i else i) = (i.natAbs : Int) := by split <;> omega
  rw [z]
  exact q _ F H (Gr.refl s) (.int _)
theorem rc_max2 : RcD K (fun xs H Q => ∃ i j, xs = [.int i, .int j] ∧ Q (.int (if j > i then j else i)) H) [.int i, .int j] (.int (max i j)) := fun F H vs s r Q q => by
  have e := RpA.ints (ns := [i, j]) r
  refine ⟨i, j, e, ?_⟩
  have z : (if j > i then j else i) = max i j := by split <;> omega
  rw [z]
  exact q _ F H (Gr.refl s) (.int _)
def rLenA (K : PySem.W.Frag) : List V → Hp → VK → Prop := fun xs H Q => ∃ x n, xs = [x] ∧ LenV K x H n ∧ Q (.int (n : Int)) H
theorem callLen {X : Cx} : CallR X (.builtin "len") (rLenA X.K) := call_len
theorem rc_lenL : RcD K (rLenA K) [.lst ds] (.int ds.length) := fun F H vs s r Q q => by
  cases r with
  | cons r rr =>
    cases rr
    cases r with
    | @lst a xs _ ha ra => exact ⟨.ref a, ds.length, rfl, .inl ⟨xs, .inl (.inl (s _ _ ha)), ra.len.symm⟩, q _ F H (Gr.refl s) (.int _)⟩
theorem rc_lenT : RcD K (rLenA K) [.tup ds] (.int ds.length) := fun F H vs s r Q q => by
  cases r with
  | cons r rr =>
    cases rr
    cases r with
    | @tup a xs _ ha ra => exact ⟨.ref a, ds.length, rfl, .inr ⟨xs, sqt_mono s ha, ra.len.symm⟩, q _ F H (Gr.refl s) (.int _)⟩
theorem rc_lenP {ns : List Int} : RcD K (rLenA K) [.scr ns] (.int ns.length) := fun F H vs s r Q q => by
  cases r with
  | cons r rr =>
    cases rr
    cases r with
    | @scr a _ ha => exact ⟨.ref a, ns.length, rfl, .inl ⟨_, s.seq ha, by rw [List.length_map]⟩, q _ F H (Gr.refl s) (.int _)⟩
theorem rc_lenS (h : x.length ≤ 100000) : RcD K (rLenA K) [.str x] (.int x.length) := fun F H vs s r Q q => by
  cases r with
  | cons r rr =>
    cases rr
    cases r
    exact ⟨.str x, x.length, rfl, ⟨Nat.le_trans h (by decide), rfl⟩, q _ F H (Gr.refl s) (.int _)⟩
def rIntA : List V → Hp → VK → Prop := fun xs H Q => ((∃ i, xs = [.int i] ∧ Q (.int i) H) ∨ ∃ k, xs = [.bl k] ∧ Q (.int (if k then 1 else 0)) H) ∨ (∃ a n, xs = [.str a] ∧ PySem.intText? a = some n ∧ a.length ≤ 640 ∧ Q (.int n) H)
theorem callInt {X : Cx} : CallR X (.type "int") rIntA := call_int1.or call_int_str
theorem rc_intB {b : Bool} : RcD K rIntA [.bl b] (.int (if b then 1 else 0)) := fun F H vs s r Q q => by
  have e := RpA.bls (ns := [b]) r
  exact .inl (.inr ⟨b, e, q _ F H (Gr.refl s) (.int _)⟩)
theorem rc_intS {n : Int} (h : PySem.intText? x = some n) (hl : x.length ≤ 640) : RcD K rIntA [.str x] (.int n) := fun F H vs s r Q q => by
  have e := RpA.strs (ns := [x]) r
  exact .inr ⟨x, n, e, h, hl, q _ F H (Gr.refl s) (.int _)⟩
theorem rc_all {bs : List Bool} : RcD K (rAll K) [.lst (bs.map .bl)] (.bl (bs.all id)) := fun F H vs s r Q q => by
  cases r with
  | cons r rr =>
    cases rr
    cases r with
    | @lst a xs _ ha ra =>
      have e := RpA.bls ra
      subst e
      exact ⟨a, bs, rfl, .inl (.inl (s _ _ ha)), q _ F H (Gr.refl s) (.bl _)⟩
theorem rc_sum {ns : List Int} : RcD K (rSum K) [.lst (ns.map .int)] (.int ns.sum) := fun F H vs s r Q q => by
  cases r with
  | cons r rr =>
    cases rr
    cases r with
    | @lst a xs _ ha ra =>
      have e := RpA.ints ra
      subst e
      exact ⟨a, ns, rfl, .inl (.inl (s _ _ ha)), q _ F H (Gr.refl s) (.int _)⟩
/-- the type of plain things -/
def tyD : D → Option String
  | .non => some "NoneType"
  | .bl _ => some "bool"
  | .int _ => some "int"
  | .str _ => some "str"
  | .lst _ => some "list"
  | .tup _ => some "tuple"
  | .dct => some "dict"
  | _ => none
theorem tyX_of {F H : Hp} {v : V} {T : String} (s : Same F H) (r : Rp K F v d) (h : tyD d = some T) : TyX K H v (.type T) := by
  cases r with
  | non => cases h; exact .base .non
  | bl b => cases h; exact .base (.bl b)
  | int i => cases h; exact .base (.int i)
  | str x => cases h; exact .base (.str x)
  | lst ha _ => cases h; exact .base (.lst (s _ _ ha))
  | tup ha _ =>
    cases h
    rcases ha with (ha | ⟨o, ha⟩) | ⟨o, _, _, ha, hc, _⟩
    · exact .base (.tup (s _ _ ha))
    · exact .fTuple (s _ _ ha)
    · exact .kTuple ha hc
  | dct ha => cases h; exact .base (.dK (s _ _ ha))
  | scr _ => cases h
  | adr _ => cases h
  | ty _ => cases h
  | ins _ _ => cases h
theorem rc_isi {T U : String} {b : Bool} (h : tyD d = some T) (hb : kitB T U = some b) : RcD K (rIsi K) [d, .ty U] (.bl b) := fun F H vs s r Q q => by
  cases r with
  | cons r rr =>
    cases rr with
    | cons r2 rr =>
      cases rr
      cases r2
      exact ⟨_, _, _, _, b, rfl, .ty U, tyX_of s r h, kit_ty hb, q _ F H (Gr.refl s) (.bl b)⟩
end
end DL

namespace DL
open PySem PySem.Spec PyProof.Rows L2
/-! ### defs by name -/
structure Df (K : PySem.W.Frag) (mg : Str → Option Value) (x : Str) (ps : List Str) (st : Stmt) : Prop where
  ex : ∃ (f : Addr) (fd : FuncData), Fun K x x st f fd ∧ mg x = some (.ref f) ∧ Binds K fd ps []
structure Cl (P : Program) (w : World) (K : PySem.W.Frag) (mg : Str → Option Value) (base : Heap) (CX : CXT) (k : Nat) (x : Str) (sp : Sp) : Prop where
  ex : ∃ (f : Addr) (fd : FuncData) (ps : List Str), FnOk P w K mg base CX k f fd ps sp ∧ mg x = some (.ref f) ∧ PySem.W.keepIn K (.ref f) = true ∧ Binds K fd ps []
section
variable {P : Program} {w : World} {K : PySem.W.Frag} {mg : Str → Option Value} {base : Heap} {x : Str} {st : Stmt} {N ps : List Str} {k : Nat} {S : List D → D → Prop} {T : List D → Addr → Prop} {sp : Sp}
theorem clR (D : Df K mg x ps st) (sc : FnScope N ps (defScope st)) (len : ∀ ds d, S ds d → ds.length = ps.length)
    (body : ∀ (f : Addr) (cdv : Value) (A : Around) (outer : List Env) (s : Shared) (H : Hp) (E : XK), Room k (A.deeper (envOfC x (defScope st) s.heap.objs.size f cdv)) →
      ∃ t, PSs (cxOf CX0 P w K mg base N x (defScope st) f cdv A outer s H E).nox (defBody st) t ∧ ∀ ds d, S ds d → Sd K E0 t (startG N ds) (.rt d)) : Cl P w K mg base CX0 (k + 1) x (spR K S) := by
  obtain ⟨f, fd, F, hm, b⟩ := D.ex
  exact ⟨f, fd, ps, fnR F sc len (body f), hm, F.kp, b⟩
theorem clX (D : Df K mg x ps st) (sc : FnScope N ps (defScope st)) (len : ∀ ds d, S ds d → ds.length = ps.length) (len2 : ∀ ds C, T ds C → ds.length = ps.length)
    (body : ∀ (f : Addr) (cdv : Value) (A : Around) (outer : List Env) (s : Shared) (H : Hp) (E : XK), Room k (A.deeper (envOfC x (defScope st) s.heap.objs.size f cdv)) →
      ∃ t, PSs (cxOf (L2.CX P w) P w K mg base N x (defScope st) f cdv A outer s H E) (defBody st) t ∧ (∀ ds d, S ds d → Sd K E t (startG N ds) (.rt d)) ∧ (∀ ds C, T ds C → Sd K E t (startG N ds) (.ex C))) : Cl P w K mg base (L2.CX P w) (k + 1) x (spX K S T) := by
  obtain ⟨f, fd, F, hm, b⟩ := D.ex
  exact ⟨f, fd, ps, fnX F sc len len2 (body f), hm, F.kp, b⟩
theorem clImp {sp' : Sp} {CX : CXT} (c : Cl P w K mg base CX k x sp) (h : ∀ vs H Q E, sp' vs H Q E → sp vs H Q E) : Cl P w K mg base CX k x sp' := by
  obtain ⟨f, fd, ps, F, a, b, d⟩ := c.ex
  exact ⟨f, fd, ps, F.imp h, a, b, d⟩
theorem clMono {CX : CXT} {j : Nat} (c : Cl P w K mg base CX k x sp) (h : k ≤ j) : Cl P w K mg base CX j x sp := by
  obtain ⟨f, fd, ps, F, a, b, d⟩ := c.ex
  exact ⟨f, fd, ps, F.mono h, a, b, d⟩
end
section
variable {X : Cx} {k j : Nat} {x : Str} {sp : Sp} {p pos : Pos} {e : Expr} {es : List Expr} {t : TA}
theorem pcl (c : Cl X.prog X.w X.K X.mg X.base CX0 k x sp) (hr : Room j X.A) (hk : k ≤ j) (hg : Gl X x) (ha : PA X (e :: es) t)
    (hdb : (x == ("__debug__" : Str)) = false := by decide) (he : starEach (e :: es) X.env = (false, eval e X.env) :: starEach es X.env := by rfl) (hpl : (backTo pos (starEach es X.env)).any (·.1) = false := by rfl) :
    PE X (.Call (.Name x p) (e :: es) [] pos) (tCall sp [] E0 t) := by
  obtain ⟨f, fd, ps, F, hm, kp, b⟩ := c.ex
  exact pe_call F (hr.mono hk) hg hm kp b .nil pass0 ha hdb he hpl
/-- a def that may raise, where nothing is let out: it does not -/
theorem pclX (c : Cl X.prog X.w X.K X.mg X.base (L2.CX X.prog X.w) k x sp) (hr : Room j X.A) (hk : k ≤ j) (hg : Gl X x) (ha : PA X (e :: es) t)
    (hdb : (x == ("__debug__" : Str)) = false := by decide) (he : starEach (e :: es) X.env = (false, eval e X.env) :: starEach es X.env := by rfl) (hpl : (backTo pos (starEach es X.env)).any (·.1) = false := by rfl) :
    PE X (.Call (.Name x p) (e :: es) [] pos) (tCall sp [] E0 t) := by
  obtain ⟨f, fd, ps, F, hm, kp, b⟩ := c.ex
  exact pe_call F (hr.mono hk) hg hm kp b .nil passL ha hdb he hpl
/-- .. where errors are let out -/
theorem pclR {E : XK} (c : Cl X.prog X.w X.K X.mg X.base (L2.CX X.prog X.w) k x sp) (hr : Room j X.A) (hk : k ≤ j) (hg : Gl X x) (hx : Passes (L2.CX X.prog X.w) X E) (ha : PA X (e :: es) t)
    (hdb : (x == ("__debug__" : Str)) = false := by decide) (he : starEach (e :: es) X.env = (false, eval e X.env) :: starEach es X.env := by rfl) (hpl : (backTo pos (starEach es X.env)).any (·.1) = false := by rfl) :
    PE X (.Call (.Name x p) (e :: es) [] pos) (tCall sp [] E t) := by
  obtain ⟨f, fd, ps, F, hm, kp, b⟩ := c.ex
  exact pe_call F (hr.mono hk) hg hm kp b .nil hx ha hdb he hpl
/-- inside a try's body, at the slots -/
theorem pclS {E : L2.St → XK} (c : Cl X.prog X.w X.K X.mg X.base (L2.CX X.prog X.w) k x sp) (hr : Room j X.A) (hk : k ≤ j) (hg : Gl X x) (hx : ∀ σ, PassesAt (L2.CX X.prog X.w) X σ (E σ)) (ha : PA X (e :: es) t)
    (hdb : (x == ("__debug__" : Str)) = false := by decide) (he : starEach (e :: es) X.env = (false, eval e X.env) :: starEach es X.env := by rfl) (hpl : (backTo pos (starEach es X.env)).any (·.1) = false := by rfl) :
    PE X (.Call (.Name x p) (e :: es) [] pos) (tCallS sp E t) := by
  obtain ⟨f, fd, ps, F, hm, kp, b⟩ := c.ex
  exact pe_callS F (hr.mono hk) hg hm kp b hx ha hdb he hpl
end
/-! ### slices of lists and of texts -/
def rSlA (K : PySem.W.Frag) : V → Option Int → Option Int → Hp → VK → Prop := fun x lo hi H Q => rSlL K x lo hi H Q ∨ rSlS x lo hi H Q
theorem slA {X : Cx} : SlR X (rSlA X.K) := fun pins s σ H x v vl vu lo hi sl Q I rx hs pl pu h => by
  rcases h with h | h
  · exact sl_list pins s σ H x v vl vu lo hi sl Q I rx hs pl pu h
  · exact sl_str pins s σ H x v vl vu lo hi sl Q I rx hs pl pu h
def cutD (ds : List D) (lo hi : Option Int) : List D := (ds.drop (HT.sIx ds.length 0 lo)).take (HT.sIx ds.length ds.length hi - HT.sIx ds.length 0 lo)
section
variable {K : PySem.W.Frag} {ds : List D} {lo hi : Option Int} {x : Str}
theorem rs_lst : RsD K (rSlA K) (.lst ds) lo hi (.lst (cutD ds lo hi)) := fun F H v s rv Q q => by
  cases rv with
  | @lst a xs _ ha ra =>
    refine .inl ⟨a, xs, rfl, .inl (.inl (s _ _ ha)), fun p hp => ?_⟩
    have g := Gr.new (o := .lst (cutV xs lo hi)) s hp
    refine q _ _ _ g (.lst upd_same (RpA.mono g.f ?_))
    unfold cutV cutD
    rw [ra.len]
    exact (ra.drop _).take _
theorem rs_scr {ns : List Int} : RsD K (rSlA K) (.scr ns) lo hi (.lst (cutD (ns.map .int) lo hi)) := fun F H v s rv Q q => by
  cases rv with
  | @scr a _ ha =>
    refine .inl ⟨a, _, rfl, s.seq ha, fun p hp => ?_⟩
    have g := Gr.new (o := .lst (cutV (ns.map V.int) lo hi)) s hp
    refine q _ _ _ g (.lst upd_same (RpA.mono g.f ?_))
    unfold cutV cutD
    rw [List.length_map, List.length_map]
    exact ((RpA.ofInts ns).drop _).take _
theorem rs_str (h : x.length ≤ 100000) : RsD K (rSlA K) (.str x) lo hi (.str (cutS x lo hi)) := fun F H v s rv Q q => by
  cases rv
  exact .inr ⟨x, rfl, Nat.le_trans h (by decide), q _ F H (Gr.refl s) (.str _)⟩
end
/-! ### what the built-in names are -/
theorem bt_isinstance : bootBuiltins "isinstance" = some (.builtin "isinstance") := by decide +kernel
theorem bt_len : bootBuiltins "len" = some (.builtin "len") := by decide +kernel
theorem bt_abs : bootBuiltins "abs" = some (.builtin "abs") := by decide +kernel
theorem bt_max : bootBuiltins "max" = some (.builtin "max") := by decide +kernel
theorem bt_min : bootBuiltins "min" = some (.builtin "min") := by decide +kernel
theorem bt_all : bootBuiltins "all" = some (.builtin "all") := by decide +kernel
theorem bt_sum : bootBuiltins "sum" = some (.builtin "sum") := by decide +kernel
theorem bt_sorted : bootBuiltins "sorted" = some (.builtin "sorted") := by decide +kernel
theorem bt_repr : bootBuiltins "repr" = some (.builtin "repr") := by decide +kernel
theorem bt_int : bootBuiltins "int" = some (.type "int") := by decide +kernel
theorem bt_str : bootBuiltins "str" = some (.type "str") := by decide +kernel
theorem bt_list : bootBuiltins "list" = some (.type "list") := by decide +kernel
theorem bt_tuple : bootBuiltins "tuple" = some (.type "tuple") := by decide +kernel
theorem bt_bool : bootBuiltins "bool" = some (.type "bool") := by decide +kernel
theorem bt_dict : bootBuiltins "dict" = some (.type "dict") := by decide +kernel
theorem bt_ValueError : bootBuiltins "ValueError" = some (.type "ValueError") := by decide +kernel
/-- a class as a value -/
theorem rc_isiC {K : PySem.W.Frag} {d : D} {t : Value} {C : Addr} {b : Bool} (ht : ∀ F H v, Same F H → Rp K F v d → TyX K H v t) (hb : PySem.W.kitOne K t (.ref C) = some b) : RcD K (rIsi K) [d, .adr C] (.bl b) := fun F H vs s r Q q => by
  cases r with
  | cons r rr =>
    cases rr with
    | cons r2 rr =>
      cases rr
      cases r2
      exact ⟨_, _, _, _, b, rfl, .own C, ht F H _ s r, hb, q _ F H (Gr.refl s) (.bl b)⟩
end DL

namespace DL
open PySem PySem.Spec PyProof.Rows L2
/-! ### a def called within an except suite, its argument the error that is handled -/
structure FnE (P : Program) (w : World) (K : PySem.W.Frag) (mg : Str → Option Value) (base : Heap) (k : Nat) (f : Addr) (fd : FuncData) (ps : List Str) (C : Addr) (d : D) : Prop where
  len : ps.length = 1
  run : ∀ (A : Around) (outer : List Env) (s : Shared) (H F : Hp) (args : Args) (us : List Value) (Q : VK) (p : Addr × Obj), L2H.RoomH k A → Zc (.ref C) none p.2 → (∃ vs, p.2.data = .fields vs) → L2H.PinOk outer H s p →
    Env0 P w K mg base A outer s H → BindsTo s fd args (ps.zip us) → Vals [.ref p.1] us → Same F H → (∀ v F' H', Gr F H F' H' → Rp K F' v d → Q v H') → codeAny (model P w) A (.call (.ref f) args) (CR CX0 outer P w H s Q E0) s
structure ClE (P : Program) (w : World) (K : PySem.W.Frag) (mg : Str → Option Value) (base : Heap) (k : Nat) (x : Str) (C : Addr) (d : D) : Prop where
  ex : ∃ (f : Addr) (fd : FuncData) (ps : List Str), FnE P w K mg base k f fd ps C d ∧ mg x = some (.ref f) ∧ PySem.W.keepIn K (.ref f) = true ∧ Binds K fd ps []
section
variable {P : Program} {w : World} {K : PySem.W.Frag} {mg : Str → Option Value} {base : Heap}
theorem clE {x : Str} {st : Stmt} {N ps : List Str} {k : Nat} {C : Addr} {d : D} (De : Df K mg x ps st) (S : FnScope N ps (defScope st)) (hl : ps.length = 1)
    (body : ∀ (f : Addr) (cdv : Value) (A : Around) (outer : List Env) (s : Shared) (H : Hp) (p : Addr × Obj), Zc (.ref C) none p.2 → (∃ vs, p.2.data = .fields vs) → L2H.RoomH k (A.deeper (envOfC x (defScope st) s.heap.objs.size f cdv)) →
      ∃ t, PSs (L2H.cxH CX0 P w K mg base N x (defScope st) f cdv A outer s H E0 p).nox (defBody st) t ∧ Sd K E0 t (startG N [.adr p.1]) (.rt d)) : ClE P w K mg base (k + 1) x C d := by
  obtain ⟨f, fd, F, hm, b⟩ := De.ex
  have kp := F.kp
  obtain ⟨oc, od, kV, doc, pm, an, cdv, ct, osl, rfl, lk, hcd⟩ := F.ex
  refine ⟨f, _, ps, ⟨hl, fun A outer s H Fz args us Q p hr hz hf hpin e0 hb r sF q => ?_⟩, hm, kp, b⟩
  have hlv : ([V.ref p.1] : List V).length = ps.length := hl.symm
  have KX : K.In s.heap := e0.mod.kin.keeps fun b o e => (e0.bs b o e).1
  have lim : s.heap.NoLimit := e0.mod.nolimit.keeps fun b o e => (e0.bs b o e).1
  have hkind : ∀ y ∈ ps.zip us, (defScope st).names.lookup y.1 = some .local ∨ ((defScope st).names.lookup y.1 = some .cell ∧ ((cellsFrom (s.heap.objs.size + 1) (defScope st).names []).lookup y.1).isSome = true) := by
    rintro ⟨n, v⟩ hy
    rcases S.par n (List.of_mem_zip hy).1 with z | z
    · exact .inl z
    · exact .inr ⟨z, PySem.W.cellsFrom_some _ _ _ (.inl z)⟩
  refine codeAny_call_function hr.depth (KX _ _ lk) rfl S.co S.gen rfl (PySem.W.codeRec_of KX hcd) (hb _ _ _ _ ?_)
  refine wpAny_newFunctionEnv_cells S.kind hkind fun env he s1 x => ?_
  subst he
  refine ⟨lim.keeps x.toInCall.keep, codeAny_func ?_⟩
  obtain ⟨t, ht, hq⟩ := body f cdv A outer s H p hz hf (hr.deeper _)
  have I := L2H.inv_startH (CX := CX0) (E := E0) (f := f) (cd := cdv) S hpin e0 hlv r x
  refine wpAny_mono (ht.nox.run [] s1 (L2.start N [.ref p.1]) H _ I (run_rt (Q := Q) hq sF (.cons (.adr p.1) .nil) q)) (fun fl s' hs => ?_) fun e s' hs => hs
  cases fl with
  | ret u =>
    obtain ⟨v, σ', H', J, rv, q'⟩ := hs
    exact ⟨v, H', J.os, J.bare, J.base, J.hok, rv, q'⟩
  | next =>
    obtain ⟨σ', H', J, q'⟩ := hs
    exact ⟨.non, H', J.os, J.bare, J.base, J.hok, rfl, q'⟩
  | brk =>
    obtain ⟨_, _, _, z⟩ := hs
    exact z.elim
  | cont =>
    obtain ⟨_, _, _, z⟩ := hs
    exact z.elim
end
/-- isinstance of the error that is pinned -/
theorem call_isP {X : Cx} {p : Addr × Obj} {C : Addr} (hp : p ∈ X.pn) (G : ExcC X.K C) (hz : Zc (.ref C) none p.2) (hf : ∃ vs, p.2.data = .fields vs) : CallR X (.builtin "isinstance") (rIsE X.K C p.1) := by
  intro pins s σ H xs us Q I r h
  obtain ⟨c, cv, b, rfl, hcv, e, q⟩ := h
  obtain ⟨u1, u2, rfl, r1, r2⟩ := vals2 r
  cases (show u1 = Value.ref p.1 from r1)
  have ec := hcv _ r2
  subst ec
  have hget := (I.pin p (List.mem_append_left _ hp)).1
  obtain ⟨vs, hv⟩ := hf
  have J : PySem.W.InstAt s.heap p.1 p.2 C none := by
    obtain ⟨a, oc, od, oda, osl⟩ := p
    obtain ⟨h1, h2⟩ := hz
    dsimp only at h1 h2 hv
    subst h1 h2 hv
    exact ⟨hget, rfl, rfl, trivial⟩
  exact PySem.W.kia_one (PySem.W.handS_kitx_exc G.hg G.hk G.hs G.hd G.ha G.hn G.ht G.hm) I.kIn J e (fun z => nomatch z) fun tk => ⟨.bl b, H, I.tok tk, rfl, q⟩
section
variable {K : PySem.W.Frag} {C D' a : Addr} {b : Bool}
theorem rc_isP (h : PySem.W.kitOne K (.ref C) (.ref D') = some b) : RcD K (rIsE K C a) [.adr a, .adr D'] (.bl b) := fun F H vs s r Q q => by
  cases r with
  | cons r1 rr =>
    cases rr with
    | cons r2 rr =>
      cases rr
      cases r1
      cases r2
      exact ⟨.ref D', .ref D', b, rfl, fun u z => z, h, q _ F H (Gr.refl s) (.bl b)⟩
theorem rc_isPT {n : String} (h : PySem.W.kitOne K (.ref C) (.type n) = some b) : RcD K (rIsE K C a) [.adr a, .ty n] (.bl b) := fun F H vs s r Q q => by
  cases r with
  | cons r1 rr =>
    cases rr with
    | cons r2 rr =>
      cases rr
      cases r1
      cases r2
      exact ⟨.ty n, .type n, b, rfl, fun u z => z, h, q _ F H (Gr.refl s) (.bl b)⟩
end
/-! ### the call within the suite -/
def tCallE (K : PySem.W.Frag) (W : Addr → Option D) (a : Addr) (cls : Value) (dd : Option Addr) (t : TA) : TE := fun σ H Q => t σ H fun vs H1 => vs = [.ref a] ∧ ∃ C d F, cls = .ref C ∧ dd = none ∧ W C = some d ∧ Same F H1 ∧ ∀ v F' H', Gr F H1 F' H' → Rp K F' v d → Q v H'
theorem pe_callE {X : Cx} {a : Addr} {oe : Obj} {pn : List (Addr × Obj)} {cls : Value} {dd : Option Addr} {W : Addr → Option D} {k j : Nat} {x : Str} {q pos : Pos} {e : Expr} {t : TA} (hF : ∀ C d, W C = some d → ClE X.prog X.w X.K X.mg X.base k x C d)
    (hmx : ∃ f, X.mg x = some (.ref f) ∧ PySem.W.keepIn X.K (.ref f) = true)
    (hr : Room j X.A) (hk : k ≤ j) (hz : Zc cls dd oe) (hf : ∃ vs, oe.data = .fields vs) (hg : Gl X x) (ha : PA (X.suite a ((a, oe) :: pn)) [e] t) (hdb : (x == ("__debug__" : Str)) = false := by decide)
    (he : starEach (e :: []) X.env = (false, eval e X.env) :: starEach [] X.env := by rfl) (hpl : (backTo pos (starEach [] X.env)).any (·.1) = false := by rfl) :
    PE (X.suite a ((a, oe) :: pn)) (.Call (.Name x q) [e] [] pos) (tCallE X.K W a cls dd t) := by
  refine ⟨fun pins s σ H Q I h => ?_⟩
  have hroom : L2H.RoomH j (X.suite a ((a, oe) :: pn)).A := ⟨hr.dp, hr.un⟩
  obtain ⟨f0, hm0, kp0⟩ := hmx
  refine wpAny_Call_Name_kw (ld_glob (X := X.suite a ((a, oe) :: pn)) I hg hm0 ?_ hdb)
  refine PySem.W.callWith_K (h₀ := X.base) I.ok.mod.kin kp0 (thn (ha.run pos pins s σ H _ I h) fun us s1 ⟨vs, H1, I1, r, q1⟩ => ⟨I1.kIn, ?_⟩) he hpl
  obtain ⟨rfl, C, d, F, e1, e2, e3, sF, q2⟩ := q1
  obtain ⟨f, fd, ps, G, hm, kp, b⟩ := (hF C d e3).ex
  rw [hm0] at hm
  cases hm
  have hlu : us.length = ps.length := by rw [← r.length]; exact G.len.symm
  have bb := b s1 us I1.kIn (by rw [List.append_nil]; exact hlu)
  rw [List.append_nil] at bb
  have P1 := I1.pin (a, oe) (List.mem_append_left _ List.mem_cons_self)
  have hpin : L2H.PinOk (X.suite a ((a, oe) :: pn)).stack H1 s1 (a, oe) := ⟨P1.1, P1.2.1, fun hm => (List.mem_cons.mp (I1.stkSub a hm)).elim P1.2.2.1 P1.2.2.2.1, P1.2.2.2.2⟩
  have hz' : Zc (.ref C) none oe := ⟨hz.1.trans e1, hz.2.trans e2⟩
  refine wpAny_call (codeAny_mono (G.run _ _ s1 H1 F ⟨us, []⟩ us Q (a, oe) ⟨by have := hroom.dp; omega, by have := hroom.un; omega⟩ hz' hf hpin I1.env0 bb r sF q2) fun rs s' hq => ?_)
  cases rs with
  | error e => exact False.elim hq
  | ok fl =>
    cases fl with
    | ret u => exact I1.after hq
    | next => exact False.elim hq
    | brk => exact False.elim hq
    | cont => exact False.elim hq
/-! ### try: body, except C as e: return word_of(e) -/
/-- the body raises an error of the class at C, its slots as they were -/
def SdW (K : PySem.W.Frag) (W : WX) (ts : TS) (Γ : Gam) (C : Addr) : Prop := ∀ (F0 H0 F H : Hp) (σ : L2.St) (De : Ends), Ok K F0 H0 F H σ Γ → (∀ F1 H1, Ok K F0 H0 F1 H1 σ Γ → W (.ref C) none σ H1) → ts De σ H
def XdW (K : PySem.W.Frag) (W : WX) (te : TE) (Γ : Gam) (C : Addr) : Prop := ∀ (F0 H0 F H : Hp) (σ : L2.St), Ok K F0 H0 F H σ Γ → (∀ F1 H1, Ok K F0 H0 F1 H1 σ Γ → W (.ref C) none σ H1) → ∀ Q : VK, te σ H Q
section
variable {K : PySem.W.Frag} {E : XK} {W : WX} {Γ : Gam} {d : D} {ds : List D} {tas : TA} {te ta tb : TE} {t : TT} {ts tu : TS} {S : List D → D → Prop} {T : List D → Addr → Prop} {C : Addr}
theorem ed_callS {E' : L2.St → XK} (h : Ea K tas Γ ds) (hs : S ds d) : Ed K (tCallS (spX K S T) E' tas) Γ d := fun F0 H0 F H σ ok Q q => h F0 H0 F H σ ok _ fun vs F1 H1 g1 r1 =>
  ⟨F1, ds, g1.s, r1, .inl ⟨d, hs, fun v F2 H2 g2 r2 => q v F2 H2 (g1.trans g2) r2⟩⟩
theorem xw_callS (h : Ea K tas Γ ds) (hs : T ds C) : XdW K W (tCallS (spX K S T) (WE W) tas) Γ C := fun F0 H0 F H σ ok fin Q => h F0 H0 F H σ ok _ fun vs F1 H1 g1 r1 =>
  ⟨F1, ds, g1.s, r1, .inr ⟨C, hs, fun F2 H2 g2 => fin F2 H2 ((ok.grow g1).grow g2)⟩⟩
theorem sw_ret (h : XdW K W te Γ C) : SdW K W (tRet te) Γ C := fun F0 H0 F H σ De ok fin => h F0 H0 F H σ ok fin _
theorem sw_drop (h : XdW K W te Γ C) : SdW K W (tDrop te) Γ C := fun F0 H0 F H σ De ok fin => h F0 H0 F H σ ok fin _
theorem sw_head (h : SdW K W ts Γ C) : SdW K W (tSeq ts tu) Γ C := fun F0 H0 F H σ De ok fin => h F0 H0 F H σ _ ok fin
theorem sw_if {b : Bool} (h : Et K t Γ b) (h1 : b = true → SdW K W ts Γ C) (h2 : b = false → SdW K W tu Γ C) : SdW K W (tIfS t ts tu) Γ C := fun F0 H0 F H σ De ok fin => h F0 H0 F H σ ok _ fun F1 H1 g1 => by
  cases b with
  | true => exact h1 rfl F0 H0 F1 H1 σ De (ok.grow g1) fin
  | false => exact h2 rfl F0 H0 F1 H1 σ De (ok.grow g1) fin
/-- what stands ahead of it in the block does not raise and leaves the slots: an if that is not taken -/
theorem sw_skip (h : Et K t Γ false) (h2 : SdW K W tu Γ C) : SdW K W (tSeq (tIfS t ts tNext) tu) Γ C := fun F0 H0 F H σ De ok fin => h F0 H0 F H σ ok _ fun F1 H1 g1 => h2 F0 H0 F1 H1 σ De (ok.grow g1) fin
/-- the whole: it raises, is caught, and the word is told -/
theorem sd_caught {c : Value} {i : Nat} {Wm : Addr → Option D} {Wout : WX} {tb : WX → TS} (hi : i < Γ.length) (hb : ∀ W, SdW K W (tb W) Γ C) (hx : PySem.W.exmOne K (.ref C) c = some true) (hw : Wm C = some d) :
    Sd K E (fun De σ H => tb (wAs K c i (fun a cls dd => tRet (tCallE K Wm a cls dd (tCons (tVar i) tNil))) Wout De) De σ H) Γ (.rt d) := fun F0 H0 F H σ De ok fin =>
  hb _ F0 H0 F H σ De ok fun F1 H1 ok1 => ⟨true, hx, fun _ a ha => by
    have hs : (σ.set i (some (V.ref a)))[i]? = some (some (.ref a)) := List.getElem?_set_self (by rw [ok.len]; exact hi)
    exact ⟨.ref a, hs, rfl, C, d, F1, rfl, rfl, hw, ok1.g.s, fun v F' H' g r => fin v F' H' (ok1.g.trans g) r⟩, fun z => nomatch z⟩
/-- .. it returns -/
theorem sd_calm {Wx : Ends → WX} {tb : WX → TS} {o : Oc} (hb : ∀ W, Sd K E (tb W) Γ o) : Sd K E (fun De σ H => tb (Wx De) De σ H) Γ o := fun F0 H0 F H σ De ok fin => hb _ F0 H0 F H σ De ok fin
/-- sep.join(texts) -/
theorem ed_join {to te : TE} {a : Str} {ys : List Str} (h : Ed K to Γ (.str a)) (h2 : Ed K te Γ (.lst (ys.map .str))) (hl : (ys.map (·.length)).sum + ys.length * a.length ≤ 16777216) :
    Ed K (tM1 (fun x xs H Q => ∃ a p, ∃ ys : List Str, x = .str a ∧ xs = [.ref p] ∧ (SqL K H p (ys.map V.str) ∨ SqT K H p (ys.map V.str)) ∧ (ys.map (·.length)).sum + ys.length * a.length ≤ 16777216 ∧ Q (.str (Txt.join a ys)) H) to te) Γ (.str (Txt.join a ys)) := fun F0 H0 F H σ ok Q q => h F0 H0 F H σ ok _ fun v F1 H1 g1 r1 => by
  cases r1
  refine ⟨⟨a, rfl⟩, h2 F0 H0 F1 H1 σ (ok.grow g1) _ fun w F2 H2 g2 r2 => ?_⟩
  cases r2 with
  | @lst p xs _ hp ra =>
    have e := RpA.strs ra
    subst e
    exact ⟨a, p, ys, rfl, rfl, .inl (.inl (.inl (g2.s _ _ hp))), hl, q _ F2 H2 (g1.trans g2) (.str _)⟩
end
theorem kit_self {K : PySem.W.Frag} {C : Addr} : PySem.W.kitOne K (.ref C) (.ref C) = some true := by
  unfold PySem.W.kitOne
  rw [if_pos (by simp)]
theorem kit_other {K : PySem.W.Frag} {C C' : Addr} {b : Bool} (n : C ≠ C') (ic : PySem.W.isClsIn K C' = true) (tt : PySem.W.typeIn K (.ref C') = some (.type "type")) (hs : PySem.W.subIn K (.ref C) (.ref C') = some b) : PySem.W.kitOne K (.ref C) (.ref C') = some b := by
  unfold PySem.W.kitOne PySem.W.kitCls
  rw [if_neg (fun z => n (Value.ref.inj (beq_iff_eq.mp z)))]
  have ic' : (PySem.W.clsIn K C').isSome = true := ic
  show (if ((PySem.W.clsIn K C').isSome && PySem.W.typeIn K (.ref C') == some (.type "type")) = true then PySem.W.subIn K (.ref C) (.ref C') else none) = some b
  rw [if_pos (by rw [ic', tt]; rfl)]
  exact hs
theorem kit_val {K : PySem.W.Frag} {C : Addr} {b : Bool} (hs : PySem.W.subIn K (.ref C) (.type "ValueError") = some b) : PySem.W.kitOne K (.ref C) (.type "ValueError") = some b := by
  unfold PySem.W.kitOne PySem.W.kitCls
  rw [if_neg (by intro z; exact nomatch (beq_iff_eq.mp z))]
  show (if PySem.W.kitMeta "ValueError" = true then PySem.W.subIn K (.ref C) (.type "ValueError") else none) = some b
  rw [if_pos (by decide +kernel)]
  exact hs
/-- one class is caught -/
def W1 (C0 : Addr) (d0 : D) : Addr → Option D := fun C => if C = C0 then some d0 else none
theorem W1_self {C0 : Addr} {d0 : D} : W1 C0 d0 C0 = some d0 := if_pos rfl
section
variable {P : Program} {w : World} {K : PySem.W.Frag} {mg : Str → Option Value} {base : Heap} {k : Nat} {x : Str} {C0 : Addr} {d0 : D}
theorem W1_ok (c : ClE P w K mg base k x C0 d0) : ∀ C d, W1 C0 d0 C = some d → ClE P w K mg base k x C d := fun C d h => by
  unfold W1 at h
  by_cases e : C = C0
  · subst e
    rw [if_pos rfl] at h
    cases h
    exact c
  · rw [if_neg e] at h
    cases h
theorem ClE.mx (c : ClE P w K mg base k x C0 d0) : ∃ f, mg x = some (.ref f) ∧ PySem.W.keepIn K (.ref f) = true := by
  obtain ⟨f, fd, ps, _, a, b, _⟩ := c.ex
  exact ⟨f, a, b⟩
end
/-! ### the law's own promise -/
def spLaw (K : PySem.W.Frag) : Sp := fun vs H Q _ => ∃ (a : Addr) (ns : List Int), vs = [.ref a] ∧ SqL K H a (ns.map V.int) ∧ ns.length ≤ 63 ∧ (∀ z ∈ ns, Builtin.Int.intBits z ≤ 1048576) ∧ ∀ H', Q (.bl true) H'
def Slaw : List D → D → Prop := fun ds d => ∃ ns : List Int, ds = [.scr ns] ∧ ns.length ≤ 63 ∧ (∀ z ∈ ns, Builtin.Int.intBits z ≤ 1048576) ∧ d = .bl true
theorem law_imp {K : PySem.W.Frag} : ∀ vs H Q E, spLaw K vs H Q E → spR K Slaw vs H Q E := fun vs H Q E ⟨a, ns, e, h, h1, h2, q⟩ =>
  ⟨H, [.scr ns], .bl true, Same.refl H, by rw [e]; exact .cons (.scr h) .nil, ⟨ns, rfl, h1, h2, rfl⟩, fun v F' H' g r => by cases r; exact q H'⟩
theorem fnLaw {P : Program} {w : World} {K : PySem.W.Frag} {mg : Str → Option Value} {base : Heap} {x qual : Str} {st : Stmt} {f : Addr} {fd : FuncData} {N ps : List Str} {k : Nat} (F : Fun K x qual st f fd) (sc : FnScope N ps (defScope st)) (h1 : ps.length = 1)
    (body : ∀ (cdv : Value) (A : Around) (outer : List Env) (s : Shared) (H : Hp) (E : XK), Room k (A.deeper (envOfC qual (defScope st) s.heap.objs.size f cdv)) →
      ∃ t, PSs (cxOf CX0 P w K mg base N qual (defScope st) f cdv A outer s H E).nox (defBody st) t ∧ ∀ ns : List Int, ns.length ≤ 63 → (∀ z ∈ ns, Builtin.Int.intBits z ≤ 1048576) → Sd K E0 t (startG N [.scr ns]) (.rt (.bl true))) : FnOk P w K mg base CX0 (k + 1) f fd ps (spLaw K) :=
  (fnR (S := Slaw) F sc (fun ds d h => by obtain ⟨ns, rfl, _⟩ := h; exact h1.symm) fun cdv A outer s H E hr => by
    obtain ⟨t, ht, hd⟩ := body cdv A outer s H E hr
    exact ⟨t, ht, fun ds d h => by obtain ⟨ns, rfl, a, b, rfl⟩ := h; exact hd ns a b⟩).imp law_imp
end DL

namespace DL
open PySem PySem.Spec PyProof.Rows L2
/-! ### instances: fields, making one -/
def putD (f : Str) (d : D) : List (Str × D) → List (Str × D)
  | [] => [(f, d)]
  | (g, x) :: r => if g = f then (g, d) :: r else (g, x) :: putD f d r
theorem putD_len {f : Str} {d : D} {n : Nat} : ∀ {gs : List (Str × D)}, gs.length < n → n < 1000 → (putD f d gs).length < n + 1 := by
  intro gs h hn
  induction gs generalizing n with
  | nil => show 1 < n + 1; simp only [List.length_nil] at h; omega
  | cons g gs ih =>
    show (if g.1 = f then (g.1, d) :: gs else (g.1, g.2) :: putD f d gs).length < n + 1
    split
    · simp only [List.length_cons] at h ⊢; omega
    · simp only [List.length_cons] at h ⊢
      have := ih (n := n - 1) (by omega) (by omega)
      omega
section
variable {K : PySem.W.Frag} {H : Hp}
theorem RpF.len : ∀ {vs : List (Str × V)} {ds : List (Str × D)}, RpF K H vs ds → vs.length = ds.length
  | _, _, .nil => rfl
  | _, _, .cons _ t => congrArg Nat.succ (RpF.len t)
theorem RpF.put {f : Str} {v : V} {d : D} (r : Rp K H v d) : ∀ {vs : List (Str × V)} {ds : List (Str × D)}, RpF K H vs ds → RpF K H (putF f v vs) (putD f d ds)
  | _, _, .nil => .cons r .nil
  | (g, x) :: vs, (_, y) :: ds, .cons h t => by
    show RpF K H (if g = f then (g, v) :: vs else (g, x) :: putF f v vs) (if g = f then (g, d) :: ds else (g, y) :: putD f d ds)
    by_cases e : g = f
    · rw [if_pos e, if_pos e]; exact .cons r t
    · rw [if_neg e, if_neg e]; exact .cons h (RpF.put r t)
end
section
variable {K : PySem.W.Frag} {E : XK} {Γ : Gam} {d : D} {ds : List D} {te : TE} {tas : TA} {C C' : Addr} {gs : List (Str × D)} {f : Str} {S : List D → D → Prop} {T : List D → Addr → Prop}
theorem ed_fld (h : Ed K te Γ (.ins C gs)) (c : Cls K C) (n : NoAttr K C f) (l : gs.lookup f = some d) : Ed K (tFld K te f) Γ d := fun F0 H0 F H σ ok Q q => h F0 H0 F H σ ok _ fun v F1 H1 g1 r1 => by
  cases r1 with
  | @ins a _ dx fs _ ha hf =>
    obtain ⟨v, hv, rv⟩ := hf.look l
    exact ⟨a, C, dx, fs, v, rfl, g1.s _ _ ha, c, n, hv, q v F1 H1 g1 rv⟩
/-- a field of an instance that this frame owns -/
theorem ed_fldO (i : Nat) {q : Option Addr} (hi : Γ[i]? = some (.ob q C gs)) (c : Cls K C) (n : NoAttr K C f) (l : gs.lookup f = some d) : Ed K (tFld K (tVar i) f) Γ d := fun F0 H0 F H σ ok Q k => by
  obtain ⟨p, ho, a, b, _, _, r, _⟩ := ok.ow i _ hi
  cases r with
  | @ins _ _ dx fs _ hf =>
    obtain ⟨v, hv, rv⟩ := hf.look l
    exact ⟨_, a, p, C, dx, fs, v, rfl, b, c, n, hv, k v F H (Gr.refl ok.g.s) rv⟩
theorem sd_fld (i : Nat) {q : Option Addr} (hi : Γ[i]? = some (.ob q C gs)) (h : Ed K te Γ d) (c : Cls K C) (n : NoAttr K C f) (hl : gs.length < 1000) : Sd K E (sFld K (tVar i) te f) Γ (.nx (Γ.set i (.ob q C (putD f d gs)))) := fun F0 H0 F H σ De ok fin =>
  h F0 H0 F H σ ok _ fun v F1 H1 g1 r1 => by
    obtain ⟨p, ho, a, b, c', e', r, at_⟩ := ok.ow i _ hi
    obtain ⟨c1, b1⟩ := g1.out c' b
    have ok1 := ok.grow g1
    generalize ew : (Ow.ins q C gs) = w at r at_
    cases r with
    | lst r => cases ew
    | @ins _ _ dx fs _ hf =>
      cases ew
      refine ⟨_, a, p, C, dx, fs, rfl, b1, c, n, by rw [hf.len]; exact hl, ?_⟩
      exact fin F1 _ σ g1.f (ok1.upOw hi a (.ins ((hf.mono g1.f).put r1)) (by cases q with | none => trivial | some q => exact at_))
/-- what __init__ promises: called with a new instance and ds, it leaves the instance as d -/
def spI (K : PySem.W.Frag) (C : Addr) (S : List D → D → Prop) (T : List D → Addr → Prop) : Sp := fun vs H Q E => ∃ F Hc x dx vs' ds, vs = .ref x :: vs' ∧ Same F Hc ∧ Hc x = none ∧ Hc dx = none ∧ dx ≠ x ∧ H = upd (upd Hc dx (.own x)) x (.ins C dx []) ∧ RpA K F vs' ds ∧
  ((∃ d, S ds d ∧ ∀ F' H', Gr F Hc F' H' → Rp K F' (.ref x) d → Q .non H') ∨ (∃ C', T ds C' ∧ ∀ F' H', Gr F Hc F' H' → E (.ref C') none H'))
theorem ed_make {E' : XK} (h : Ea K tas Γ ds) (hs : S ds d) : Ed K (tMake C (spI K C S T) [] E' tas) Γ d := fun F0 H0 F H σ ok Q q => h F0 H0 F H σ ok _ fun vs F1 H1 g1 r1 => fun x dx hx hdx ne =>
  ⟨F1, H1, x, dx, vs, ds, by rw [List.append_nil], g1.s, hx, hdx, ne, rfl, r1, .inl ⟨d, hs, fun F2 H2 g2 r2 => ⟨rfl, q _ F2 H2 (g1.trans g2) r2⟩⟩⟩
theorem xd_make (h : Ea K tas Γ ds) (hs : T ds C') : Xd K E (tMake C (spI K C S T) [] E tas) Γ C' := fun F0 H0 F H σ ok fin Q => h F0 H0 F H σ ok _ fun vs F1 H1 g1 r1 => fun x dx hx hdx ne =>
  ⟨F1, H1, x, dx, vs, ds, by rw [List.append_nil], g1.s, hx, hdx, ne, rfl, r1, .inr ⟨C', hs, fun F2 H2 g2 => fin F2 H2 (g1.trans g2)⟩⟩
end
def startI (N : List Str) (x C : Addr) (ds : List D) : Gam := .ob (some x) C [] :: (ds.map .fz ++ List.replicate (N.length - ds.length - 1) .no)
section
variable {K : PySem.W.Frag} {E : XK} {d : D} {ds : List D} {N : List Str} {F Hc : Hp} {vs : List V} {ts : TS} {Q : VK} {x dx C : Addr}
theorem ok_startI (e : Same F Hc) (hx : Hc x = none) (hdx : Hc dx = none) (ne : dx ≠ x) (r : RpA K F vs ds) : Ok K F Hc F (upd (upd Hc dx (.own x)) x (.ins C dx [])) (L2.start N (.ref x :: vs)) (startI N x C ds) := by
  have hl := r.len
  have sH : Same Hc (upd (upd Hc dx (.own x)) x (.ins C dx [])) := fun b o z => by
    rw [upd_ne (ne_of_none z hx), upd_ne (ne_of_none z hdx)]
    exact z
  have noOw : ∀ (i : Nat) (es : Ow), ¬ (ds.map Sl.fz ++ List.replicate (N.length - ds.length - 1) Sl.no)[i]? = some (.own es) := fun i es h => by
    rw [List.getElem?_append] at h
    split at h
    · rw [List.getElem?_map] at h
      cases q : ds[i]? with
      | none => rw [q] at h; cases h
      | some x => rw [q] at h; cases h
    · rw [List.getElem?_replicate] at h
      split at h <;> cases h
  have z : ∀ (i : Nat) (es : Ow), (startI N x C ds)[i]? = some (.own es) → i = 0 ∧ es = .ins (some x) C [] := fun i es h => by
    cases i with
    | zero => cases h; exact ⟨rfl, rfl⟩
    | succ i => exact absurd h (noOw i es)
  refine ⟨⟨Same.refl F, e.trans sH, sH, fun _ h _ => h⟩, ?_, fun i d h => ?_, fun i es h => ?_, fun i j es fs p hij h1 h2 => ?_⟩
  · unfold startI L2.start
    simp only [List.length_append, List.length_map, List.length_replicate, List.length_cons, hl]
    omega
  · cases i with
    | zero => cases h
    | succ i =>
      have h' : (ds.map Sl.fz ++ List.replicate (N.length - ds.length - 1) Sl.no)[i]? = some (.fz d) := h
      rw [List.getElem?_append] at h'
      split at h'
      · rename_i hi
        rw [List.length_map] at hi
        rw [List.getElem?_map] at h'
        cases q : ds[i]? with
        | none => rw [q] at h'; cases h'
        | some x =>
          rw [q] at h'
          cases h'
          obtain ⟨v, hv, rv⟩ := r.get q
          refine ⟨v, ?_, rv⟩
          unfold L2.start
          rw [List.getElem?_append_left (by rw [List.length_map, List.length_cons, hl]; omega), List.getElem?_map, List.getElem?_cons_succ, hv]
          rfl
      · rw [List.getElem?_replicate] at h'
        split at h' <;> cases h'
  · obtain ⟨rfl, rfl⟩ := z i es h
    exact ⟨x, .ins C dx [], rfl, upd_same, e.free hx, hx, .ins .nil, rfl⟩
  · exact absurd ((z i es h1).1.trans (z j fs h2).1.symm) hij
end
section
variable {P : Program} {w : World} {K : PySem.W.Frag} {mg : Str → Option Value} {base : Heap} {x qual : Str} {st : Stmt} {f C : Addr} {fd : FuncData} {N ps : List Str} {k : Nat} {S : List D → D → Prop} {T : List D → Addr → Prop}
/-- __init__ that does not raise -/
theorem fnI (F : Fun K x qual st f fd) (sc : FnScope N ps (defScope st)) (len : ∀ ds d, S ds d → ds.length + 1 = ps.length)
    (body : ∀ (cdv : Value) (A : Around) (outer : List Env) (s : Shared) (H : Hp) (E : XK), Room k (A.deeper (envOfC qual (defScope st) s.heap.objs.size f cdv)) →
      ∃ t, PSs (cxOf CX0 P w K mg base N qual (defScope st) f cdv A outer s H E).nox (defBody st) t ∧ ∀ ds d, S ds d → ∀ x, ∃ Γ gs, Γ[0]? = some (.ob (some x) C gs) ∧ d = .ins C gs ∧ Sd K E0 t (startI N x C ds) (.nx Γ)) : FnOk P w K mg base CX0 (k + 1) f fd ps (spI K C S fun _ _ => False) :=
  F.ok sc (fun vs H Q E h => by
    obtain ⟨F', Hc, x, dx, vs', ds, rfl, e, hx, hdx, ne, rfl, r, ⟨d, hs, q⟩ | ⟨_, z, _⟩⟩ := h
    · rw [List.length_cons, r.len]
      exact len ds d hs
    · exact z.elim) fun cdv A outer s H vs Q E hr h => by
    obtain ⟨F', Hc, x, dx, vs', ds, rfl, e, hx, hdx, ne, rfl, r, ⟨d, hs, q⟩ | ⟨_, z, _⟩⟩ := h
    · obtain ⟨t, ht, hd⟩ := body cdv A outer s _ E hr
      obtain ⟨Γ, gs, h0, rfl, hsd⟩ := hd ds d hs x
      refine ⟨t, ht, hsd F' Hc F' _ _ _ (ok_startI e hx hdx ne r) fun F1 H1 σ1 e1 ok1 => ?_⟩
      obtain ⟨F2, g2, _, _, p, hp, rp⟩ := ok1.freeze h0
      cases (show x = p from hp)
      exact q F2 H1 g2 rp
    · exact z.elim
theorem fnIX (F : Fun K x qual st f fd) (sc : FnScope N ps (defScope st)) (len : ∀ ds d, S ds d → ds.length + 1 = ps.length) (len2 : ∀ ds C, T ds C → ds.length + 1 = ps.length)
    (body : ∀ (cdv : Value) (A : Around) (outer : List Env) (s : Shared) (H : Hp) (E : XK), Room k (A.deeper (envOfC qual (defScope st) s.heap.objs.size f cdv)) →
      ∃ t, PSs (cxOf (L2.CX P w) P w K mg base N qual (defScope st) f cdv A outer s H E) (defBody st) t ∧ (∀ ds d, S ds d → ∀ x, ∃ Γ gs, Γ[0]? = some (.ob (some x) C gs) ∧ d = .ins C gs ∧ Sd K E t (startI N x C ds) (.nx Γ)) ∧ (∀ ds C', T ds C' → ∀ x, Sd K E t (startI N x C ds) (.ex C'))) :
      FnOk P w K mg base (L2.CX P w) (k + 1) f fd ps (spI K C S T) :=
  F.okX sc (fun vs H Q E h => by
    obtain ⟨F', Hc, x, dx, vs', ds, rfl, e, hx, hdx, ne, rfl, r, ⟨d, hs, q⟩ | ⟨C', hs, q⟩⟩ := h
    · rw [List.length_cons, r.len]
      exact len ds d hs
    · rw [List.length_cons, r.len]
      exact len2 ds C' hs) fun cdv A outer s H vs Q E hr h => by
    obtain ⟨F', Hc, x, dx, vs', ds, rfl, e, hx, hdx, ne, rfl, r, h⟩ := h
    obtain ⟨t, ht, hd, hx2⟩ := body cdv A outer s _ E hr
    refine ⟨t, ht, ?_⟩
    rcases h with ⟨d, hs, q⟩ | ⟨C', hs, q⟩
    · obtain ⟨Γ, gs, h0, rfl, hsd⟩ := hd ds d hs x
      refine hsd F' Hc F' _ _ _ (ok_startI e hx hdx ne r) fun F1 H1 σ1 e1 ok1 => ?_
      obtain ⟨F2, g2, _, _, p, hp, rp⟩ := ok1.freeze h0
      cases (show x = p from hp)
      exact q F2 H1 g2 rp
    · exact hx2 ds C' hs x F' Hc F' _ _ _ (ok_startI e hx hdx ne r) q
end
/-- a class that makes instances by its own __init__ -/
structure Ci (P : Program) (w : World) (K : PySem.W.Frag) (mg : Str → Option Value) (base : Heap) (CX : CXT) (k : Nat) (x : Str) (C : Addr) (sp : Sp) : Prop where
  ex : ∃ (f : Addr) (fd : FuncData) (ps : List Str), Mk K C f ∧ FnOk P w K mg base CX k f fd ps sp ∧ mg x = some (.ref C) ∧ Binds K fd ps []
section
variable {X : Cx} {k j : Nat} {x : Str} {sp : Sp} {p pos : Pos} {e : Expr} {es : List Expr} {t : TA} {C : Addr}
theorem pci (c : Ci X.prog X.w X.K X.mg X.base CX0 k x C sp) (hr : Room j X.A) (hk : k + 1 ≤ j) (hg : Gl X x) (ha : PA X (e :: es) t)
    (hdb : (x == ("__debug__" : Str)) = false := by decide) (he : starEach (e :: es) X.env = (false, eval e X.env) :: starEach es X.env := by rfl) (hpl : (backTo pos (starEach es X.env)).any (·.1) = false := by rfl) :
    PE X (.Call (.Name x p) (e :: es) [] pos) (tMake C sp [] E0 t) := by
  obtain ⟨f, fd, ps, M, F, hm, b⟩ := c.ex
  exact pe_make M F (hr.mono hk) hg hm b .nil pass0 ha hdb he hpl
theorem pciX (c : Ci X.prog X.w X.K X.mg X.base (L2.CX X.prog X.w) k x C sp) (hr : Room j X.A) (hk : k + 1 ≤ j) (hg : Gl X x) (ha : PA X (e :: es) t)
    (hdb : (x == ("__debug__" : Str)) = false := by decide) (he : starEach (e :: es) X.env = (false, eval e X.env) :: starEach es X.env := by rfl) (hpl : (backTo pos (starEach es X.env)).any (·.1) = false := by rfl) :
    PE X (.Call (.Name x p) (e :: es) [] pos) (tMake C sp [] E0 t) := by
  obtain ⟨f, fd, ps, M, F, hm, b⟩ := c.ex
  exact pe_make M F (hr.mono hk) hg hm b .nil passL ha hdb he hpl
theorem pciR {E : XK} (c : Ci X.prog X.w X.K X.mg X.base (L2.CX X.prog X.w) k x C sp) (hr : Room j X.A) (hk : k + 1 ≤ j) (hg : Gl X x) (hx : Passes (L2.CX X.prog X.w) X E) (ha : PA X (e :: es) t)
    (hdb : (x == ("__debug__" : Str)) = false := by decide) (he : starEach (e :: es) X.env = (false, eval e X.env) :: starEach es X.env := by rfl) (hpl : (backTo pos (starEach es X.env)).any (·.1) = false := by rfl) :
    PE X (.Call (.Name x p) (e :: es) [] pos) (tMake C sp [] E t) := by
  obtain ⟨f, fd, ps, M, F, hm, b⟩ := c.ex
  exact pe_make M F (hr.mono hk) hg hm b .nil hx ha hdb he hpl
end
/-- a class's own __init__, a method: as the top has made them -/
structure Di (K : PySem.W.Frag) (C : Addr) (x qual : Str) (ps : List Str) (st : Stmt) : Prop where
  ex : ∃ (f : Addr) (fd : FuncData), Mk K C f ∧ Fun K x qual st f fd ∧ Binds K fd ps []
structure Dm (K : PySem.W.Frag) (C : Addr) (x qual : Str) (ps : List Str) (st : Stmt) : Prop where
  ex : ∃ (f : Addr) (fd : FuncData), Meth K C x f ∧ Fun K x qual st f fd ∧ Binds K fd ps []
section
variable {P : Program} {w : World} {K : PySem.W.Frag} {mg : Str → Option Value} {base : Heap} {x m qual : Str} {st : Stmt} {C : Addr} {N ps : List Str} {k : Nat} {S : List D → D → Prop} {T : List D → Addr → Prop}
theorem ciI (D : Di K C m qual ps st) (hm : mg x = some (.ref C)) (sc : FnScope N ps (defScope st)) (len : ∀ ds d, S ds d → ds.length + 1 = ps.length)
    (body : ∀ (f : Addr) (cdv : Value) (A : Around) (outer : List Env) (s : Shared) (H : Hp) (E : XK), Room k (A.deeper (envOfC qual (defScope st) s.heap.objs.size f cdv)) →
      ∃ t, PSs (cxOf CX0 P w K mg base N qual (defScope st) f cdv A outer s H E).nox (defBody st) t ∧ ∀ ds d, S ds d → ∀ x, ∃ Γ gs, Γ[0]? = some (.ob (some x) C gs) ∧ d = .ins C gs ∧ Sd K E0 t (startI N x C ds) (.nx Γ)) : Ci P w K mg base CX0 (k + 1) x C (spI K C S fun _ _ => False) := by
  obtain ⟨f, fd, M, F, b⟩ := D.ex
  exact ⟨f, fd, ps, M, fnI F sc len (body f), hm, b⟩
theorem ciX (D : Di K C m qual ps st) (hm : mg x = some (.ref C)) (sc : FnScope N ps (defScope st)) (len : ∀ ds d, S ds d → ds.length + 1 = ps.length) (len2 : ∀ ds C, T ds C → ds.length + 1 = ps.length)
    (body : ∀ (f : Addr) (cdv : Value) (A : Around) (outer : List Env) (s : Shared) (H : Hp) (E : XK), Room k (A.deeper (envOfC qual (defScope st) s.heap.objs.size f cdv)) →
      ∃ t, PSs (cxOf (L2.CX P w) P w K mg base N qual (defScope st) f cdv A outer s H E) (defBody st) t ∧ (∀ ds d, S ds d → ∀ x, ∃ Γ gs, Γ[0]? = some (.ob (some x) C gs) ∧ d = .ins C gs ∧ Sd K E t (startI N x C ds) (.nx Γ)) ∧ (∀ ds C', T ds C' → ∀ x, Sd K E t (startI N x C ds) (.ex C'))) : Ci P w K mg base (L2.CX P w) (k + 1) x C (spI K C S T) := by
  obtain ⟨f, fd, M, F, b⟩ := D.ex
  exact ⟨f, fd, ps, M, fnIX F sc len len2 (body f), hm, b⟩
end
theorem pe_globI {X : Cx} {x : Str} {i : Int} {pos : Pos} (hg : Gl X x) (hm : ∃ t, X.mg x = some (.int i t)) (hd : (x == ("__debug__" : Str)) = false := by decide) : PE X (.Name x pos) (tC (.int i)) := by
  obtain ⟨t, h⟩ := hm
  exact pe_glob hg h ⟨t, rfl⟩ hd
theorem pe_globS {X : Cx} {x y : Str} {pos : Pos} (hg : Gl X x) (hm : ∃ t, X.mg x = some (.str y t)) (hd : (x == ("__debug__" : Str)) = false := by decide) : PE X (.Name x pos) (tC (.str y)) := by
  obtain ⟨t, h⟩ := hm
  exact pe_glob hg h ⟨t, rfl⟩ hd
/-- a pair of intL that the top made -/
theorem sqt_pair {K : PySem.W.Frag} {a : Addr} {od : Option Addr} {i j : Int} {t u : Tok} {n : Nat} {sl : Array (Option Value)} (h : K.lookup a = some ⟨.type "tuple", od, .seq #[.int i t, .int j u] n, sl⟩) : ∀ H, SqT K H a [.int i, .int j] := fun H =>
  .inr ⟨_, _, _, h, rfl, rfl, (by show 2 ≤ sizeLine; decide), .cons ⟨_, rfl⟩ (.cons ⟨_, rfl⟩ .nil)⟩
theorem ed_pair {K : PySem.W.Frag} {a : Addr} {i j : Int} {Γ : Gam} (h : ∀ H, SqT K H a [.int i, .int j]) : Ed K (tC (.ref a)) Γ (.tup [.int i, .int j]) := ed_c fun F => .tup (h F) (.cons (.int i) (.cons (.int j) .nil))
theorem Ei.is {K : PySem.W.Frag} {wi : TI} {Γ : Gam} {ds es : List D} (h : Ei K wi Γ ds) (e : ds = es) : Ei K wi Γ es := e ▸ h
/-! a def that ends without a return: None -/
section
variable {P : Program} {w : World} {K : PySem.W.Frag} {mg : Str → Option Value} {base : Heap} {x : Str} {st : Stmt} {N ps : List Str} {k : Nat} {S : List D → D → Prop} {T : List D → Addr → Prop}
theorem clXN (D : Df K mg x ps st) (sc : FnScope N ps (defScope st)) (len : ∀ ds d, S ds d → ds.length = ps.length) (len2 : ∀ ds C, T ds C → ds.length = ps.length)
    (body : ∀ (f : Addr) (cdv : Value) (A : Around) (outer : List Env) (s : Shared) (H : Hp) (E : XK), Room k (A.deeper (envOfC x (defScope st) s.heap.objs.size f cdv)) →
      ∃ t, PSs (cxOf (L2.CX P w) P w K mg base N x (defScope st) f cdv A outer s H E) (defBody st) t ∧ (∀ ds d, S ds d → d = .non ∧ ∃ Γ, Sd K E t (startG N ds) (.nx Γ)) ∧ (∀ ds C, T ds C → Sd K E t (startG N ds) (.ex C))) : Cl P w K mg base (L2.CX P w) (k + 1) x (spX K S T) := by
  obtain ⟨f, fd, F, hm, b⟩ := D.ex
  refine ⟨f, fd, ps, ?_, hm, F.kp, b⟩
  exact F.okX sc (fun vs H Q E h => by
    obtain ⟨F', ds, e, r, ⟨d, hs, q⟩ | ⟨C, hs, q⟩⟩ := h
    · rw [r.len]
      exact len ds d hs
    · rw [r.len]
      exact len2 ds C hs) fun cdv A outer s H vs Q E hr h => by
    obtain ⟨F', ds, e, r, h⟩ := h
    obtain ⟨t, ht, hd, hx⟩ := body f cdv A outer s H E hr
    refine ⟨t, ht, ?_⟩
    rcases h with ⟨d, hs, q⟩ | ⟨C, hs, q⟩
    · obtain ⟨rfl, Γ, hn⟩ := hd ds d hs
      exact run_nx hn e r q
    · exact run_ex (hx ds C hs) e r q
end
/-! ### list(x); the place of a sign -/
def rListA (K : PySem.W.Frag) : List V → Hp → VK → Prop := fun xs H Q => ∃ p ys, xs = [.ref p] ∧ (SqL K H p ys ∨ SqT K H p ys) ∧ ∀ l, H l = none → Q (.ref l) (upd H l (.lst ys))
theorem callList {X : Cx} : CallR X (.type "list") (rListA X.K) := call_list_of
def rIndexC : V → List V → Hp → VK → Prop := fun x xs H Q => ∃ (a b : Str) (k : Nat), x = .str a ∧ xs = [.str b] ∧ Txt.index0 a b = some k ∧ Q (.int (k : Nat)) H
theorem mt_indexC {X : Cx} : MtR X "str.index" rIndexC := by
  intro pins s σ H x xs v us Q I rx rs h
  obtain ⟨a, b, k, rfl, rfl, hk, hq⟩ := h
  obtain ⟨t, rfl⟩ := rx
  cases rs with
  | cons r1 rs =>
    cases rs
    obtain ⟨u, rfl⟩ := r1
    cases q : Builtin.Str.occurrences a b 0 a.length 1 with
    | nil => unfold Txt.index0 at hk; rw [q] at hk; cases hk
    | cons k' rest =>
      have : k' = k := by unfold Txt.index0 at hk; rw [q] at hk; exact Option.some.inj hk
      subst this
      exact PySem.SC.index q ⟨.int (k' : Nat), H, I.tok _, ⟨_, rfl⟩, hq⟩
theorem index0_one {x : Str} {c k : Nat} (h : x.cps.toList[k]? = some c) (hn : ∀ j, j < k → x.cps.toList[j]? ≠ some c) : Txt.index0 x ⟨#[c]⟩ = some k := by
  have at' : ∀ i, StrLaws.At x ⟨#[c]⟩ x.length i ↔ x.cps.toList[i]? = some c := fun i => StrLaws.subAt_one x c i
  unfold Txt.index0
  rcases StrLaws.occ_head x ⟨#[c]⟩ 1 (Nat.le_refl 1) with ⟨_, h2⟩ | ⟨i, r, h1, h2, h3⟩
  · exact absurd ((at' k).mpr h) (h2 k)
  · rw [h1]
    have e1 := (at' i).mp h2
    rcases Nat.lt_trichotomy i k with z | z | z
    · exact absurd e1 (hn i z)
    · rw [z]; rfl
    · exact absurd ((at' k).mpr h) (h3 k z)
section
variable {K : PySem.W.Frag} {Γ : Gam} {to te : TE} {a b : Str} {k : Nat} {ds : List D}
theorem ed_index (h : Ed K to Γ (.str a)) (h2 : Ed K te Γ (.str b)) (hk : Txt.index0 a b = some k) : Ed K (tM1 rIndexC to te) Γ (.int (k : Nat)) := fun F0 H0 F H σ ok Q q => h F0 H0 F H σ ok _ fun v F1 H1 g1 r1 => by
  cases r1
  refine ⟨⟨a, rfl⟩, h2 F0 H0 F1 H1 σ (ok.grow g1) _ fun w F2 H2 g2 r2 => ?_⟩
  cases r2
  exact ⟨a, b, k, rfl, rfl, hk, q _ F2 H2 (g1.trans g2) (.int _)⟩
theorem rc_listL : RcD K (rListA K) [.lst ds] (.lst ds) := fun F H vs s r Q q => by
  cases r with
  | cons r rr =>
    cases rr
    cases r with
    | @lst a xs _ ha ra =>
      refine ⟨a, xs, rfl, .inl (.inl (.inl (s _ _ ha))), fun l hl => ?_⟩
      have g := Gr.new (o := .lst xs) s hl
      exact q _ _ _ g (.lst upd_same (ra.mono g.f))
def rInC : R2 := fun x y H Q => ∃ (c : Nat) (z : Str), x = .str ⟨#[c]⟩ ∧ y = .str z ∧ Q (.bl (decide (c ∈ z.cps.toList))) H
theorem r2_in {c : Nat} {z : Str} : R2D K (fun x y H Q => ∃ (c : Nat) (z : Str), x = .str ⟨#[c]⟩ ∧ y = .str z ∧ Q (.bl (decide (c ∈ z.cps.toList))) H) (.str ⟨#[c]⟩) (.str z) (.bl (decide (c ∈ z.cps.toList))) := fun F H v w s rv rw Q q => by
  cases rv; cases rw
  exact ⟨c, z, rfl, rfl, q _ F H (Gr.refl s) (.bl _)⟩
end
/-! ### loops by places -/
section
variable {K : PySem.W.Frag} {E : XK} {g : TG} {ts : TS} {α : Type}
theorem loopF_ix (xs : List α) (enc : α → D) (st : Nat → Gam) (h : ∀ i (hi : i < xs.length), ∃ js Γ1, Eg K g js (enc xs[i]) (st i) Γ1 ∧ Sd K E ts Γ1 (.lp (st (i + 1)))) : LoopF K E g ts (xs.map enc) (st 0) (.nx (st xs.length)) := by
  suffices main : ∀ n k, k + n = xs.length → LoopF K E g ts ((xs.drop k).map enc) (st k) (.nx (st xs.length)) by
    have z := main xs.length 0 (by omega)
    rw [List.drop_zero] at z
    exact z
  intro n
  induction n with
  | zero =>
    intro k hk
    have e : k = xs.length := by omega
    subst e
    rw [List.drop_length]
    exact .done
  | succ n ih =>
    intro k hk
    have hlt : k < xs.length := by omega
    obtain ⟨js, Γ1, a, b⟩ := h k hlt
    rw [List.drop_eq_getElem_cons hlt, List.map_cons]
    exact .step a b (ih (k + 1) (by omega))
/-- over range(n) -/
theorem loopF_rg (n : Nat) (st : Nat → Gam) (h : ∀ i, i < n → ∃ js Γ1, Eg K g js (.int (i : Nat)) (st i) Γ1 ∧ Sd K E ts Γ1 (.lp (st (i + 1)))) : LoopF K E g ts (rg 0 n) (st 0) (.nx (st n)) := by
  have z := loopF_ix (K := K) (E := E) (g := g) (ts := ts) (List.range n) (fun i => D.int (0 + (i : Nat))) st fun i hi => by
    rw [List.length_range] at hi
    obtain ⟨js, Γ1, a, b⟩ := h i hi
    exact ⟨js, Γ1, by rw [List.getElem_range, Int.zero_add]; exact a, b⟩
  rw [List.length_range] at z
  exact z
end
def intL (ts : List Int) : D := .lst (ts.map .int)
section
variable {K : PySem.W.Frag} {Γ : Gam} {g : TG} {te tn : TE} {vs : List Nat}
/-- [e for i in range(n)], n told by a term -/
theorem ed_rg (n : Nat) (f : Nat → D) (i : Nat) (hv : i ∈ vs) (hw : Ed K tn Γ (.int (n : Nat))) (hl : n ≤ 100000)
    (h : ∀ j, j < n → Ed K te ((wipeG Γ vs).set i (.fz (.int (j : Nat)))) (f j)) : Ed K (tLc (iRng1 (tCons tn tNil)) (gName i) tYes te vs) Γ (.lst ((List.range n).map f)) :=
  ed_map (List.range n) (fun j => .int (0 + (j : Nat))) f (Ei.is (ei_rng1 (n := (n : Int)) (ea_cons hw ea_nil) (by omega)) (by rw [Int.toNat_natCast]; rfl)) (by rw [List.length_range]; exact hl) fun j hj =>
    ⟨[i], _, eg_name i, by simpa using hv, by rw [Int.zero_add]; exact h j (List.mem_range.mp hj)⟩
end
/-! a def whose result is a new list -/
section
variable {P : Program} {w : World} {K : PySem.W.Frag} {mg : Str → Option Value} {base : Heap} {x : Str} {st : Stmt} {N ps : List Str} {k : Nat} {S : List D → List D → Prop} {T : List D → Addr → Prop}
theorem clW (D : Df K mg x ps st) (sc : FnScope N ps (defScope st)) (len : ∀ ds d, S ds d → ds.length = ps.length)
    (body : ∀ (f : Addr) (cdv : Value) (A : Around) (outer : List Env) (s : Shared) (H : Hp) (E : XK), Room k (A.deeper (envOfC x (defScope st) s.heap.objs.size f cdv)) →
      ∃ t, PSs (cxOf CX0 P w K mg base N x (defScope st) f cdv A outer s H E).nox (defBody st) t ∧ ∀ ds es, S ds es → Sd K E0 t (startG N ds) (.rw es)) : Cl P w K mg base CX0 (k + 1) x (spW K S) := by
  obtain ⟨f, fd, F, hm, b⟩ := D.ex
  refine ⟨f, fd, ps, ?_, hm, F.kp, b⟩
  exact F.ok sc (fun vs H Q E h => by
    obtain ⟨F', ds, es, e, r, hs, q⟩ := h
    rw [r.len]
    exact len ds es hs) fun cdv A outer s H vs Q E hr h => by
    obtain ⟨F', ds, es, e, r, hs, q⟩ := h
    obtain ⟨t, ht, hd⟩ := body f cdv A outer s H E hr
    exact ⟨t, ht, run_rw (hd ds es hs) e r q⟩
theorem clXW (D : Df K mg x ps st) (sc : FnScope N ps (defScope st)) (len : ∀ ds d, S ds d → ds.length = ps.length) (len2 : ∀ ds C, T ds C → ds.length = ps.length)
    (body : ∀ (f : Addr) (cdv : Value) (A : Around) (outer : List Env) (s : Shared) (H : Hp) (E : XK), Room k (A.deeper (envOfC x (defScope st) s.heap.objs.size f cdv)) →
      ∃ t, PSs (cxOf (L2.CX P w) P w K mg base N x (defScope st) f cdv A outer s H E) (defBody st) t ∧ (∀ ds es, S ds es → Sd K E t (startG N ds) (.rw es)) ∧ (∀ ds C, T ds C → Sd K E t (startG N ds) (.ex C))) : Cl P w K mg base (L2.CX P w) (k + 1) x (spXW K S T) := by
  obtain ⟨f, fd, F, hm, b⟩ := D.ex
  refine ⟨f, fd, ps, ?_, hm, F.kp, b⟩
  exact F.okX sc (fun vs H Q E h => by
    obtain ⟨F', ds, e, r, ⟨d, hs, q⟩ | ⟨C, hs, q⟩⟩ := h
    · rw [r.len]
      exact len ds d hs
    · rw [r.len]
      exact len2 ds C hs) fun cdv A outer s H vs Q E hr h => by
    obtain ⟨F', ds, e, r, h⟩ := h
    obtain ⟨t, ht, hd, hx⟩ := body f cdv A outer s H E hr
    refine ⟨t, ht, ?_⟩
    rcases h with ⟨d, hs, q⟩ | ⟨C, hs, q⟩
    · exact run_rw (hd ds d hs) e r q
    · exact run_ex (hx ds C hs) e r q
end
theorem ew_is {K : PySem.W.Frag} {Γ : Gam} {te : TE} {ds es : List D} (h : Ew K te Γ ds) (e : ds = es) : Ew K te Γ es := e ▸ h
theorem clFalse {P : Program} {w : World} {K : PySem.W.Frag} {mg : Str → Option Value} {base : Heap} {x : Str} {st : Stmt} {ps : List Str} {S : List D → D → Prop} (D : Df K mg x ps st) (hS : ∀ ds d, ¬ S ds d) : Cl P w K mg base CX0 0 x (spR K S) := by
  obtain ⟨f, fd, F, hm, b⟩ := D.ex
  exact ⟨f, fd, ps, ⟨fun vs H Q E h => by obtain ⟨_, _, _, _, _, hs, _⟩ := h; exact (hS _ _ hs).elim, fun A outer s H args us vs Q E _ _ _ _ h => by obtain ⟨_, _, _, _, _, hs, _⟩ := h; exact (hS _ _ hs).elim⟩, hm, F.kp, b⟩
/-! what stands in an owned slot, looked at for a while -/
section
variable {K : PySem.W.Frag} {Γ : Gam} {t : TT} {te : TE} {b : Bool} {ow : Ow}
theorem et_tmp (i : Nat) (hi : Γ[i]? = some (.own ow)) (h : Et K t (Γ.set i (.fz ow.toD)) b) : Et K t Γ b := fun F0 H0 F H σ ok Q q => by
  obtain ⟨F', g, sf, ok', _⟩ := ok.freeze hi
  exact h F0 H0 F' H σ ok' Q fun F1 H1 g1 => q F H1 ⟨Same.refl F, ok.g.s.trans g1.h, g1.h, fun _ h _ => h⟩
theorem ed_tmpB (i : Nat) (hi : Γ[i]? = some (.own ow)) (h : Ed K te (Γ.set i (.fz ow.toD)) (.bl b)) : Ed K te Γ (.bl b) := fun F0 H0 F H σ ok Q q => by
  obtain ⟨F', g, sf, ok', _⟩ := ok.freeze hi
  exact h F0 H0 F' H σ ok' Q fun v F1 H1 g1 r => by
    cases r
    exact q _ F H1 ⟨Same.refl F, ok.g.s.trans g1.h, g1.h, fun _ h _ => h⟩ (.bl b)
end
theorem ew_listL {K : PySem.W.Frag} {Γ : Gam} {te : TE} {ds : List D} (h : Ed K te Γ (.lst ds)) : Ew K (tCB (rListA K) (tCons te tNil)) Γ ds := fun F0 H0 F H σ ok Q q => h F0 H0 F H σ ok _ fun v F1 H1 g1 r1 => by
  cases r1 with
  | @lst a xs _ ha ra =>
    refine ⟨a, xs, rfl, .inl (.inl (.inl (g1.s _ _ ha))), fun l hl => ?_⟩
    exact q l xs F1 _ (g1.trans (Gr.newO g1.s hl)) (g1.h.free hl) (g1.s.free hl) upd_same ra
/-! ### within a block of its own: readings told by K -/
section
variable {X : Cx} {K : PySem.W.Frag} {tg e : Expr} {wi wi' : TI} {te te' : TE} {g g' : TG}
theorem pi_cast (h : PI X tg e wi) (q : wi = wi') : PI X tg e wi' := q ▸ h
theorem pe_cast (h : PE X e te) (q : te = te') : PE X e te' := q ▸ h
theorem pg_cast (h : PG X e g) (q : g = g') : PG X e g' := q ▸ h
theorem ix_seqK (q : X.K = K) : IxR X (rIx K) := q ▸ ix_seq
theorem callLenK (q : X.K = K) : CallR X (.builtin "len") (rLenA K) := q ▸ callLen
theorem call_isiK (q : X.K = K) : CallR X (.builtin "isinstance") (rIsi K) := q ▸ call_isi
theorem callListK (q : X.K = K) : CallR X (.type "list") (rListA K) := q ▸ callList
theorem cr_allK (q : X.K = K) (hc : X.calm = true) : CallR X (.builtin "all") (rAll K) := q ▸ cr_all hc
theorem cr_sumK (q : X.K = K) (hc : X.calm = true) : CallR X (.builtin "sum") (rSum K) := q ▸ cr_sum hc
theorem op_eqDK (q : X.K = K) (hu : X.A.units + 64 < cLine) : OpR X (compareOp .Eq) (rEqD K) := q ▸ op_eqD hu
theorem op_neDK (q : X.K = K) (hu : X.A.units + 64 < cLine) : OpR X (compareOp .NotEq) (rNeD K) := q ▸ op_neD hu
theorem slAK (q : X.K = K) : SlR X (rSlA K) := q ▸ slA
end
end DL

namespace DL
open PySem PySem.Spec PyProof.Rows L2
/-! ### where no repr is under way: repr of data -/
def rRepr (K : PySem.W.Frag) : List V → Hp → VK → Prop := fun xs H Q => ∃ a d, xs = [.ref a] ∧ Dp K H (.ref a) d ∧ d.showable = true ∧ d.hasDict = false ∧ d.depth ≤ 60 ∧ d.shown.length ≤ sizeLine ∧ Q (.str d.shown) H
theorem call_reprD {X : Cx} (hg : X.A.guards = some []) (hu : X.A.units + 64 < cLine) : CallR X (.builtin "repr") (rRepr X.K) := by
  intro pins s σ H xs us Q I r h
  obtain ⟨a, d, rfl, hd, hs, hn, hdep, hz, q⟩ := h
  cases r with
  | cons r1 rs =>
    cases rs
    have e := r1
    cases (show _ = Value.ref a from e)
    obtain ⟨as, rd⟩ := Dp.reads I d _ _ hd (show RelV (.ref a) (.ref a) from rfl)
    exact repr_of_reads' rd hs (fun z => by rw [hn] at z; cases z) hg (by omega) (fun b o e => e) (fun h' u tk k => ⟨.str d.shown, H, I.kept k, ⟨_, rfl⟩, q⟩) hz
/-- a def's promise where no repr is under way -/
structure FnG (P : Program) (w : World) (K : PySem.W.Frag) (mg : Str → Option Value) (base : Heap) (k : Nat) (f : Addr) (fd : FuncData) (ps : List Str) (sp : Sp) : Prop where
  len : ∀ vs H Q E, sp vs H Q E → vs.length = ps.length
  run : ∀ (A : Around) (outer : List Env) (s : Shared) (H : Hp) (args : Args) (us : List Value) (vs : List V) (Q : VK) (E : XK), Room k A → A.guards = some [] → Env0 P w K mg base A outer s H → BindsTo s fd args (ps.zip us) → Vals vs us → sp vs H Q E →
    codeAny (model P w) A (.call (.ref f) args) (CR CX0 outer P w H s Q E) s
section
variable {P : Program} {w : World} {K : PySem.W.Frag} {mg : Str → Option Value} {base : Heap}
theorem fnG {x qual : Str} {st : Stmt} {f : Addr} {fd : FuncData} {N ps : List Str} {k : Nat} {S : List D → D → Prop} (F : Fun K x qual st f fd) (Sc : FnScope N ps (defScope st)) (len : ∀ ds d, S ds d → ds.length = ps.length)
    (body : ∀ (cdv : Value) (A : Around) (outer : List Env) (s : Shared) (H : Hp) (E : XK), A.guards = some [] → Room k (A.deeper (envOfC qual (defScope st) s.heap.objs.size f cdv)) →
      ∃ t, PSs (cxOf CX0 P w K mg base N qual (defScope st) f cdv A outer s H E).nox (defBody st) t ∧ ∀ ds d, S ds d → Sd K E0 t (startG N ds) (.rt d)) : FnG P w K mg base (k + 1) f fd ps (spR K S) := by
  have ln : ∀ vs H Q E, spR K S vs H Q E → vs.length = ps.length := fun vs H Q E h => by
    obtain ⟨F', ds, d, e, r, hs, q⟩ := h
    rw [r.len]
    exact len ds d hs
  obtain ⟨oc, od, kV, doc, pm, an, cdv, ct, osl, rfl, lk, hcd⟩ := F.ex
  refine ⟨ln, fun A outer s H args us vs Q E hr hG e0 hb r hsp => ?_⟩
  have hlv := ln _ _ _ _ hsp
  obtain ⟨F', ds, d, sF, rd, hs, q⟩ := hsp
  have KX : K.In s.heap := e0.mod.kin.keeps fun b o e => (e0.bs b o e).1
  have lim : s.heap.NoLimit := e0.mod.nolimit.keeps fun b o e => (e0.bs b o e).1
  have hkind : ∀ y ∈ ps.zip us, (defScope st).names.lookup y.1 = some .local ∨ ((defScope st).names.lookup y.1 = some .cell ∧ ((cellsFrom (s.heap.objs.size + 1) (defScope st).names []).lookup y.1).isSome = true) := by
    rintro ⟨n, v⟩ hy
    rcases Sc.par n (List.of_mem_zip hy).1 with z | z
    · exact .inl z
    · exact .inr ⟨z, PySem.W.cellsFrom_some _ _ _ (.inl z)⟩
  refine codeAny_call_function hr.depth (KX _ _ lk) rfl Sc.co Sc.gen rfl (PySem.W.codeRec_of KX hcd) (hb _ _ _ _ ?_)
  refine wpAny_newFunctionEnv_cells Sc.kind hkind fun env he s1 x => ?_
  subst he
  refine ⟨lim.keeps x.toInCall.keep, codeAny_func ?_⟩
  obtain ⟨t, ht, hq⟩ := body cdv A outer s H E hG (hr.deeper _)
  have I := inv_start (CX := CX0) (E := E) (f := f) (cd := cdv) Sc hr.hd e0 hlv r x
  refine wpAny_mono (ht.nox.run [] s1 (L2.start N vs) H _ I (run_rt (Q := Q) (hq ds d hs) sF rd q)) (fun fl s' hs => ?_) fun e s' hs => hs
  cases fl with
  | ret u =>
    obtain ⟨v, σ', H', J, rv, q'⟩ := hs
    exact ⟨v, H', J.os, J.bare, J.base, J.hok, rv, q'⟩
  | next =>
    obtain ⟨σ', H', J, q'⟩ := hs
    exact ⟨.non, H', J.os, J.bare, J.base, J.hok, rfl, q'⟩
  | brk =>
    obtain ⟨_, _, _, z⟩ := hs
    exact z.elim
  | cont =>
    obtain ⟨_, _, _, z⟩ := hs
    exact z.elim
theorem FnG.imp {f : Addr} {fd : FuncData} {ps : List Str} {k : Nat} {sp sp' : Sp} (F : FnG P w K mg base k f fd ps sp) (h : ∀ vs H Q E, sp' vs H Q E → sp vs H Q E) : FnG P w K mg base k f fd ps sp' :=
  ⟨fun vs H Q E z => F.len vs H Q E (h _ _ _ _ z), fun A outer s H args us vs Q E a b c d e z => F.run A outer s H args us vs Q E a b c d e (h _ _ _ _ z)⟩
end
structure ClG (P : Program) (w : World) (K : PySem.W.Frag) (mg : Str → Option Value) (base : Heap) (k : Nat) (x : Str) (sp : Sp) : Prop where
  ex : ∃ (f : Addr) (fd : FuncData) (ps : List Str), FnG P w K mg base k f fd ps sp ∧ mg x = some (.ref f) ∧ PySem.W.keepIn K (.ref f) = true ∧ Binds K fd ps []
theorem clG {P : Program} {w : World} {K : PySem.W.Frag} {mg : Str → Option Value} {base : Heap} {x : Str} {st : Stmt} {N ps : List Str} {k : Nat} {S : List D → D → Prop} (De : Df K mg x ps st) (Sc : FnScope N ps (defScope st)) (len : ∀ ds d, S ds d → ds.length = ps.length)
    (body : ∀ (f : Addr) (cdv : Value) (A : Around) (outer : List Env) (s : Shared) (H : Hp) (E : XK), A.guards = some [] → Room k (A.deeper (envOfC x (defScope st) s.heap.objs.size f cdv)) →
      ∃ t, PSs (cxOf CX0 P w K mg base N x (defScope st) f cdv A outer s H E).nox (defBody st) t ∧ ∀ ds d, S ds d → Sd K E0 t (startG N ds) (.rt d)) : ClG P w K mg base (k + 1) x (spR K S) := by
  obtain ⟨f, fd, F, hm, b⟩ := De.ex
  exact ⟨f, fd, ps, fnG F Sc len (body f), hm, F.kp, b⟩
section
variable {X : Cx} {k j : Nat} {x : Str} {sp : Sp} {p pos : Pos} {e : Expr} {es : List Expr} {t : TA}
theorem pclG (c : ClG X.prog X.w X.K X.mg X.base k x sp) (hG : X.A.guards = some []) (hr : Room j X.A) (hk : k ≤ j) (hg : Gl X x) (ha : PA X (e :: es) t)
    (hdb : (x == ("__debug__" : Str)) = false := by decide) (he : starEach (e :: es) X.env = (false, eval e X.env) :: starEach es X.env := by rfl) (hpl : (backTo pos (starEach es X.env)).any (·.1) = false := by rfl) :
    PE X (.Call (.Name x p) (e :: es) [] pos) (tCall sp [] E0 t) := by
  obtain ⟨f, fd, ps, F, hm, kp, b⟩ := c.ex
  refine ⟨fun pins s σ H Q I h => ?_⟩
  refine wpAny_Call_Name_kw (ld_glob I hg hm ?_ hdb)
  refine PySem.W.callWith_K (h₀ := X.base) I.ok.mod.kin kp (thn (ha.run pos pins s σ H _ I h) fun us s1 ⟨vs, H1, I1, r, q⟩ => ⟨I1.kIn, ?_⟩) he hpl
  have q' : sp (vs ++ []) H1 Q E0 := q
  rw [List.append_nil] at q'
  have hl : us.length = ps.length := by rw [← r.length]; exact F.len _ _ _ _ q'
  have bb := b s1 us I1.kIn (by rw [List.append_nil]; exact hl)
  rw [List.append_nil] at bb
  refine wpAny_call (codeAny_mono (F.run X.A X.stack s1 H1 ⟨us, []⟩ us vs Q E0 (hr.mono hk) hG I1.env0 bb r q') fun rs s' hq => ?_)
  cases rs with
  | error e => exact False.elim hq
  | ok fl =>
    cases fl with
    | ret u => exact I1.after hq
    | next => exact False.elim hq
    | brk => exact False.elim hq
    | cont => exact False.elim hq
end
/-! ### the law itself, called where no repr is under way -/
/-- the script's object, and nothing else, may be tracked -/
structure Scr (K : PySem.W.Frag) (h : Heap) (a : Addr) (o : Obj) (ns : List Int) (H : Hp) : Prop where
  seq : SqL K H a (ns.map V.int)
  only : ∀ b u, H b = some u → b = a ∧ u = .frz o (.lst (ns.map V.int)) ∧ K.lookup a = none
theorem Scr.none_of {K : PySem.W.Frag} {h : Heap} {a : Addr} {o : Obj} {ns : List Int} {H : Hp} (S : Scr K h a o ns H) {b : Addr} (n : b ≠ a) : H b = none := by
  cases q : H b with
  | none => rfl
  | some u => exact absurd (S.only b u q).1 n
theorem scr_mk {P : Program} {w : World} {K : PySem.W.Frag} {h : Heap} {a : Addr} {vs : List Value} {ns : List Int} (KX : K.In h) (ha : h.get? a = some { cls := .type "list", data := .seq vs.toArray }) (hi : IntsAre vs ns) (hl : ns.length ≤ sizeLine) :
    ∃ H : Hp, Scr K h a { cls := .type "list", data := .seq vs.toArray } ns H ∧ HOk P w H h := by
  have rv := vals_ints hi
  have lv := hi.length
  cases hk : K.lookup a with
  | some o =>
    have e := KX a o hk
    rw [ha] at e
    cases e
    exact ⟨fun _ => none, ⟨.inr ⟨_, vs.toArray, _, hk, rfl, rfl, rfl, by rw [List.size_toArray, lv]; exact hl, by simpa using rv⟩, fun b u z => nomatch z⟩, fun b u z => nomatch z⟩
  | none =>
    let u : HO := .frz { cls := .type "list", data := .seq vs.toArray } (.lst (ns.map V.int))
    have get : ∀ b v, (if b = a then some u else none) = some v → b = a ∧ v = u := fun b v z => by
      by_cases hb : b = a
      · rw [if_pos hb] at z
        cases z
        exact ⟨hb, rfl⟩
      · rw [if_neg hb] at z
        cases z
    refine ⟨fun b => if b = a then some u else none, ⟨.inl (.inr ⟨_, if_pos rfl⟩), fun b v z => ?_⟩, fun b v z => ?_⟩
    · obtain ⟨e1, e2⟩ := get b v z
      exact ⟨e1, e2, hk⟩
    · obtain ⟨rfl, rfl⟩ := get b v z
      exact ⟨ha, by rw [List.length_map]; exact hl, vs, _, rv, ha⟩
theorem law_callG {P : Program} {w : World} {K : PySem.W.Frag} {mg mb : Str → Option Value} {k : Nat} {fa a : Addr} {fd : FuncData} {x : Str} {s : Shared} {vs : List Value} {ns : List Int}
    (KX : K.In s.heap) (hns : s.heap.Ns mainGlobals mg) (hb : s.heap.Ns builtinsNs mb) (hbb : ∀ x : Str, x ≠ "__name__" → mb x = bootBuiltins x) (hlim : s.heap.NoLimit) (hg : s.gens = #[])
    (ha : s.heap.get? a = some { cls := .type "list", data := .seq vs.toArray }) (hi : IntsAre vs ns) (hl : ns.length ≤ 63) (hbits : ∀ z ∈ ns, Builtin.Int.intBits z ≤ 1048576) (hr : Room k callerA)
    (F : ∀ base : Heap, K.In base → base.Ns mainGlobals mg → FnG P w K mg base k fa fd [x] (spLaw K)) (hbind : ∀ (s : Shared) (u : Value), BindsTo s fd ⟨[u], []⟩ [(x, u)]) :
    codeAny (model P w) callerA (.call (.ref fa) ⟨[.ref a], []⟩) (fun r s' => r = .ok (.ret (.bool true)) ∧ OldK s.heap s'.heap ∧ s'.os = s.os ∧ AllBare s'.gens) s := by
  obtain ⟨H, S, hok⟩ := scr_mk (P := P) (w := w) KX ha hi (Nat.le_trans hl (by decide))
  -- what is not the script is seen below
  have below : ∀ {b : Addr} {o : Obj}, s.heap.get? b = some o → H b = none → (hidT s.heap H).get? b = some o := fun e n => hidT_get e n
  have ns_below : ∀ {b : Addr} {m : Str → Option Value}, s.heap.Ns b m → (hidT s.heap H).Ns b m := by
    rintro b m ⟨o, es, ep, e, d, r⟩
    refine ⟨o, es, ep, below e (S.none_of fun z => ?_), d, r⟩
    subst z
    rw [ha] at e
    cases e
    cases d
  have k_below : K.In (hidT s.heap H) := fun b o e => below (KX b o e) (by
    cases q : H b with
    | none => rfl
    | some u =>
      obtain ⟨rfl, _, z⟩ := S.only b u q
      rw [z] at e
      cases e)
  obtain ⟨mc, l1, l2⟩ := hlim
  have md : Mod K mg (hidT s.heap H) := ⟨k_below, ns_below hns, ⟨mb, ns_below hb, hbb⟩, ⟨mc, ns_below l1, l2⟩⟩
  have e0 : Env0 P w K mg (hidT s.heap H) callerA [] s H :=
    { frames := rfl, mod := md, bs := fun b o e => of_hidT e, bsz := Nat.le_of_eq (hidT_size _ _), funs := trivial, frf := (fun b z => nomatch z), hok := hok, bare := .of_eq hg }
  have run := (F _ k_below (ns_below hns)).run callerA [] s H ⟨[.ref a], []⟩ [.ref a] [.ref a] (fun v _ => v = .bl true) (fun _ _ _ => False) hr rfl e0 (hbind s (.ref a)) (.cons rfl .nil) ⟨a, ns, rfl, S.seq, hl, hbits, fun _ => rfl⟩
  refine codeAny_mono run fun r s' h => ?_
  match r, h with
  | .error e, h => exact False.elim h
  | .ok .next, h => exact False.elim h
  | .ok .brk, h => exact False.elim h
  | .ok .cont, h => exact False.elim h
  | .ok (.ret u), ⟨v, H', os, bare, un, hok', rv, q⟩ =>
    cases (show v = .bl true from q)
    cases (show u = Value.bool true from rv)
    refine ⟨rfl, OldK.of_keep fun b o e => ?_, os, bare⟩
    cases q : H b with
    | none => exact un.keep b o e q (fun z => by cases z) (fun z => by cases z)
    | some v =>
      obtain ⟨rfl, rfl, _⟩ := S.only b v q
      have g1 := (hok _ _ q).1
      have g2 := (hok' _ _ (un.frzs _ _ _ q)).1
      rw [e] at g1
      cases g1
      exact g2
theorem walkG {l : PySem.W.OpenLaw} {k : Nat} {q : Program} {loose : List Str} {XP : (Str → Option Value) → Heap → Prop} {YP : World → Heap → Prop} {d : DefRec} {K : Params → PySem.W.Frag} {x : Str}
    (hn : l.most = some 63) (hdf : d.params.defaults = []) (hr : Room k callerA) (hY : ∀ (w : World) (h : Heap), YP w h → (K w.params).In h)
    (F : ∀ (w : World) (mg : Str → Option Value) (fa : Addr) (h : Heap), (K w.params).In h → h.Ns mainGlobals mg → mg d.name = some (.ref fa) →
      ∃ fd : FuncData, (∀ (s : Shared) (u : Value), BindsTo s fd ⟨[u], []⟩ [(x, u)]) ∧ ∀ base : Heap, (K w.params).In base → base.Ns mainGlobals mg → FnG l.prog w (K w.params) mg base k fa fd [x] (spLaw (K w.params))) :
    PySem.W.WalkO q loose XP YP l.row.toRowW d [] (fun f vs => PySem.call f vs) := by
  refine Att.attach_callB hn hdf fun w s₀ s₁ mg mb fa o pm cd doc a vs ns G Y ho hd hcd hmg hobj hints hlen hbits hg => ?_
  obtain ⟨fd, hb, hF⟩ := F w mg fa _ (hY w _ Y) G.T.g hmg
  exact law_callG (hY w _ Y) G.T.g G.T.b G.T.builtins G.T.nolimit hg hobj hints hlen hbits hr hF hb
theorem fnLawG {P : Program} {w : World} {K : PySem.W.Frag} {mg : Str → Option Value} {base : Heap} {x qual : Str} {st : Stmt} {f : Addr} {fd : FuncData} {N ps : List Str} {k : Nat} (F : Fun K x qual st f fd) (sc : FnScope N ps (defScope st)) (h1 : ps.length = 1)
    (body : ∀ (cdv : Value) (A : Around) (outer : List Env) (s : Shared) (H : Hp) (E : XK), A.guards = some [] → Room k (A.deeper (envOfC qual (defScope st) s.heap.objs.size f cdv)) →
      ∃ t, PSs (cxOf CX0 P w K mg base N qual (defScope st) f cdv A outer s H E).nox (defBody st) t ∧ ∀ ns : List Int, ns.length ≤ 63 → (∀ z ∈ ns, Builtin.Int.intBits z ≤ 1048576) → Sd K E0 t (startG N [.scr ns]) (.rt (.bl true))) : FnG P w K mg base (k + 1) f fd ps (spLaw K) :=
  (fnG (S := Slaw) F sc (fun ds d h => by obtain ⟨ns, rfl, _⟩ := h; exact h1.symm) fun cdv A outer s H E hG hr => by
    obtain ⟨t, ht, hd⟩ := body cdv A outer s H E hG hr
    exact ⟨t, ht, fun ds d h => by obtain ⟨ns, rfl, a, b, rfl⟩ := h; exact hd ns a b⟩).imp law_imp
/-! ### x[::-1] of a text -/
def tRevS (te : TE) : TE := fun σ H Q => te σ H fun x H1 => ∃ z : Str, x = .str z ∧ z.length ≤ sizeLine ∧ Q (.str ⟨z.cps.toList.reverse.toArray⟩) H1
theorem rev_ix (z : Str) : ((Builtin.Str.strSliceIndices none none (-1) z.length).filterMap (z.cps[·]?)).toArray = z.cps.toList.reverse.toArray := by
  have e1 : Builtin.Str.strSliceIndices none none (-1) z.length = (List.range z.length).reverse := by
    show sliceRange ((z.length : Int) - 1) (-1) (-1) = _
    rw [PySem.W.krv_sliceRange, PySem.W.krv_range]
  rw [e1, List.filterMap_reverse]
  congr 2
  exact PySem.W.krv_all z.cps
theorem pe_revS {X : Cx} {e : Expr} {te : TE} {k : Nat} {p1 p2 p3 pos : Pos} (he : PE X e te) : PE X (.Subscript e (.Slice none none (some (.UnaryOp .USub (.Constant (.int 1) k p1) p2)) p3) pos) (tRevS te) := by
  have hst : PO X (some (.UnaryOp .USub (.Constant (.int 1) k p1) p2)) (tPart (tUn (rU fun i => .int (-i)) (tC (.int 1)))) := po_some (pe_un un_neg pe_int)
  refine ⟨fun pins s σ H Q I h => ?_⟩
  refine Subscript_ (thn (he.run pins s σ H _ I h) fun v s1 ⟨x, H1, I1, r1, q1⟩ => ?_)
  obtain ⟨z, rfl, hz, q⟩ := q1
  obtain ⟨t, rfl⟩ := r1
  refine wpAny_Slice (thn (po_none.run pins s1 σ H1 (fun o H2 => o = none ∧ H2 = H1) I1 ⟨rfl, rfl⟩) fun vl s2 ⟨l, H2, I2, pl, e1, e2⟩ => ?_)
  subst e1 e2
  refine thn (po_none.run pins s2 σ H2 (fun o H3 => o = none ∧ H3 = H2) I2 ⟨rfl, rfl⟩) fun vu s3 ⟨u, H3, I3, pu, e3, e4⟩ => ?_
  subst e3 e4
  refine thn (hst.run pins s3 σ H3 (fun o H4 => o = some (-1) ∧ H4 = H3) I3 ⟨1, rfl, -1, rfl, rfl, rfl⟩) fun vs s4 ⟨o, H4, I4, ps, e5, e6⟩ => ?_
  subst e5 e6
  obtain ⟨l1, rfl, hl1⟩ := IsPart.raw pl
  obtain ⟨u1, rfl, hu1⟩ := IsPart.raw pu
  obtain ⟨st, rfl, hst1⟩ := IsPart.raw ps
  have I5 : Inv X pins σ H4 { s4 with heap := s4.heap.push { cls := .type "slice", data := .fields #[partValue l1, partValue u1, partValue st] } } := I4.kept (t' := s4.toks) fun b ob q => Heap.get?_push_of_some _ q
  show wpAny (model X.prog X.w) X.A (subscriptTail e (.Slice none none (some (.UnaryOp .USub (.Constant (.int 1) k p1) p2)) p3) (.str z t) (.ref s4.heap.objs.size)) (EP X pins σ Q) X.xe { s4 with heap := s4.heap.push { cls := .type "slice", data := .fields #[partValue l1, partValue u1, partValue st] } }
  refine tail_any (ops := [.ref s4.heap.objs.size, .str z t]) (typeIs_str _ _ _) (PySem.F.slot_str_getitem.lookup) ?_ (by with_unfolding_all rfl)
  refine wpAny_getItem_str_slice (l := l1) (u := u1) (st := st) ⟨_, Heap.get?_push_size _ rfl, rfl, rfl⟩ (by rw [hst1]; rfl) ?_
  have hm : sliceMade z t l1 u1 st = Made.str ⟨z.cps.toList.reverse.toArray⟩ := by
    unfold sliceMade slicePicked
    rw [hst1, hl1, hu1]
    show (if ((-1 : Int) == 1 && _) = true then _ else Made.str ⟨((Builtin.Str.strSliceIndices none none (-1) z.length).filterMap (z.cps[·]?)).toArray⟩) = _
    rw [if_neg (by rw [show ((-1 : Int) == 1) = false from rfl, Bool.false_and]; decide)]
    exact congrArg (fun a => Made.str ⟨a⟩) (rev_ix z)
  rw [hm]
  refine ⟨?_, .str _, H4, I5.tok _, ⟨_, rfl⟩, q⟩
  show (z.cps.toList.reverse.toArray).size ≤ sizeLine
  rw [List.size_toArray, List.length_reverse, Array.length_toList]
  exact hz
theorem ed_revS {K : PySem.W.Frag} {Γ : Gam} {te : TE} {z : Str} (h : Ed K te Γ (.str z)) (hz : z.length ≤ 100000) : Ed K (tRevS te) Γ (.str ⟨z.cps.toList.reverse.toArray⟩) := fun F0 H0 F H σ ok Q q => h F0 H0 F H σ ok _ fun v F1 H1 g1 r1 => by
  cases r1
  exact ⟨z, rfl, Nat.le_trans hz (by decide), q _ F1 H1 g1 (.str _)⟩
/-! ### isinstance of an own class -/
structure Tin (K : PySem.W.Frag) (C : Addr) : Prop where
  cl : Cls K C
  ha : PySem.W.findIn K (.ref C) "__class__" = some (some (.builtin "object.__class__"))
  hn : PySem.W.specialIn K (.builtin "object.__class__") "__get__" = some (some (.builtin "getset_descriptor.__get__"))
  ht : PySem.W.takesIn K (.builtin "object.__class__") = some true
  hm : PySem.W.mroIn K C (.type "object") = some true
theorem rc_isO {K : PySem.W.Frag} {C : Addr} {gs : List (Str × D)} (t : Tin K C) : RcD K (rIsi K) [.ins C gs, .adr C] (.bl true) :=
  rc_isiC (t := .ref C) (fun F H v s r => by
    cases r with
    | ins h _ => exact .base (.ins (s _ _ h) t.cl t.ha t.hn t.ht t.hm)) kit_self
end DL

namespace DL
open PySem PySem.Spec PyProof.Rows L2 PySem.Calls
/-! ### list(text): its signs -/
section
variable {prog : Program} {w : World} {A : Around} {E : Value → Shared → Prop} {s : Shared}
theorem hintS {z : Str} {tt : Tok} {G : Bool → Shared → Prop} (g : G false s) : wpAny (model prog w) A (Builtin.List.listLengthHint (.str z tt)) G E s := by
  have ty : s.TypeIs (.str z tt) "str" := typeIs_str s z tt
  unfold Builtin.List.listLengthHint
  refine wpAny_bind (wpAny_specialOf ty PySem.F.slot_str_len.lookup ?_)
  generalize nm : ("str.__len__" : String) = i1
  wp_delta
  rw [show splitId i1 = some ("str", "__len__") from by subst nm; decide +kernel]
  subst nm
  refine wpAny_bind (wpAny_isInstance (T := "str") (b := true) ty (by rw [isSubtype_type]; kernel_rfl) ?_)
  refine wpAny_ite_split (fun q => absurd q (by decide)) (fun _ => ?_)
  refine wpAny_ite_split (fun _ => ?_) (fun q => absurd (by decide +kernel) q)
  refine wpAny_bind (wpAny_typeOf ty ?_)
  exact wpAny_pure g
theorem iterS {z : Str} {tt : Tok} : ∃ (T : String) (oI : Obj), (∀ (A : Around) (E : Value → Shared → Prop) (s : Shared) (G : Value → Shared → Prop), G (.ref s.heap.objs.size) { s with heap := s.heap.push oI } → wpAny (model prog w) A (pyIter (.str z tt)) G E s) ∧
    (∀ (A : Around) (I : Addr), A.handled = none → Walks prog w A I [I] [I] z.cps.size (SignAt z) (fun i h => h.IsStrIter I T z tt i)) ∧ ∀ h : Heap, (h.push oI).IsStrIter h.objs.size T z tt 0 := by
  cases ha : z.cps.all (· < 128)
  · exact ⟨"str_iterator", _, fun A E s G g => wpAny_pyIter_wide ha g, fun A I hh => Walks.strWide hh I z tt, fun h => ⟨_, Heap.get?_push_size _ rfl, rfl, rfl⟩⟩
  · exact ⟨"str_ascii_iterator", _, fun A E s G g => wpAny_pyIter_ascii ha g, fun A I hh => Walks.strAscii hh I z tt, fun h => ⟨_, Heap.get?_push_size _ rfl, rfl, rfl⟩⟩
theorem extS {Rr : Result → Shared → Prop} (hh : A.handled = none) (z : Str) (tt : Tok) (l0 : Addr) (rs : Value) (k0 : Nat) (hl0 : s.heap.get? l0 = some { cls := .type "list", data := .seq #[] k0 })
    (fin : ∀ g tk ac kc, (∀ b o, b ≠ l0 → s.heap.get? b = some o → g.get? b = some o) → g.get? l0 = some { cls := .type "list", dict := none, data := .seq ac kc, slots := #[] } → ItemsOf (SignAt z) ac z.cps.size → Rr (.ok (.ret rs)) { s with heap := g, toks := tk }) (few : z.cps.size ≤ sizeLine) :
    wpAny (model prog w) A.in1 (Builtin.List.listExtendWith (.ref l0) (.str z tt) rs) (fun fi st => match fi with | .done f => Rr (.ok f) st | .again cc => cc.quiet = true ∧ codeAny (model prog w) A cc Rr st) (fun e st => Rr (.error e) st) s := by
  have n1 : l0 ≠ s.heap.objs.size := Nat.ne_of_lt (Heap.lt_size hl0)
  have n2 : l0 ∉ [s.heap.objs.size] := fun hm => n1 (List.mem_singleton.mp hm)
  obtain ⟨T, oI, it, wk, st0⟩ := iterS (prog := prog) (w := w) (z := z) (tt := tt)
  unfold Builtin.List.listExtendWith
  refine wpAny_bind (wpAny_typeOf (T := "str") (v := .str z tt) (typeIs_str s z tt) ?_)
  have e1 : Builtin.List.listSameRef (.ref l0) (.str z tt) = false := rfl
  have e2 : (Value.type "str" == Value.type "list") = false := by decide
  have e3 : (Value.type "str" == Value.type "tuple") = false := by decide
  simp only [e1, e2, e3, Bool.or_false, Bool.false_eq_true, if_false]
  refine wpAny_bind (it _ _ _ _ ?_)
  refine wpAny_bind (wpAny_holding (hintS ?_))
  rw [if_neg (by first | decide | decide +kernel)]
  have W := wk A.in1 s.heap.objs.size hh
  refine wpAny_pure ⟨plainId_quiet PySem.F.plain_extend_loop _, codeAny_extend_loopS W.toS few _ n2 _ z.cps.size 0 _ _ _ rfl (Nat.zero_le _) (st0 s.heap) (Heap.get?_push_of_some _ hl0) (ItemsOf.nil _) fun st ac kc mv hS' hac => ?_⟩
  rw [Moved.eq_with mv]
  refine fin st.heap st.toks ac kc (fun b ob hb e => mv.heap b ob (fun mem => ?_) (Heap.get?_push_of_some _ e)) hS' hac
  rcases List.mem_cons.mp mem with e' | mem
  · exact hb e'
  · exact absurd (Heap.lt_size e) (by rw [List.mem_singleton.mp mem]; exact Nat.lt_irrefl _)
theorem initS {Rr : Result → Shared → Prop} (hh : A.handled = none) (z : Str) (tt : Tok) (l0 : Addr) (hl0 : s.heap.get? l0 = some { cls := .type "list", data := .seq #[] })
    (fin : ∀ g tk ac kc, (∀ b o, b ≠ l0 → s.heap.get? b = some o → g.get? b = some o) → g.get? l0 = some { cls := .type "list", dict := none, data := .seq ac kc, slots := #[] } → ItemsOf (SignAt z) ac z.cps.size → Rr (.ok (.ret .none)) { s with heap := g, toks := tk }) (few : z.cps.size ≤ sizeLine) :
    wpAny (model prog w) A.in1 (Builtin.«list.__init__» ⟨[.ref l0, .str z tt], []⟩) (fun fi st => match fi with | .done f => Rr (.ok f) st | .again cc => cc.quiet = true ∧ codeAny (model prog w) A cc Rr st) (fun e st => Rr (.error e) st) s := by
  show wpAny _ _ (do let was ← Builtin.List.listItems (.ref l0); Builtin.List.listUpdate (.ref l0) (fun _ => #[]); letGo was.toList.reverse; Builtin.List.listExtendWith (.ref l0) (.str z tt) .none) _ _ s
  refine wpAny_bind ?_
  unfold Builtin.List.listItems
  refine wpAny_bind (wpAny_seqItems hl0 rfl (wpAny_pure ?_))
  show wpAny _ _ (updateSeq l0 (fun _ => #[]) >>= fun _ => letGo (#[] : Array Value).toList.reverse >>= fun _ => Builtin.List.listExtendWith (.ref l0) (.str z tt) .none) _ _ s
  refine wpAny_bind (wpAny_updateSeq hl0 rfl ?_)
  have up := Heap.get?_update_self (Obj.mapSeq (fun _ => (#[] : Array Value))) hl0 rfl
  have ot : ∀ b o, b ≠ l0 → s.heap.get? b = some o → (s.heap.update l0 (Obj.mapSeq (fun _ => (#[] : Array Value)))).get? b = some o := fun b o hb e => (Heap.get?_update_other _ _ (Ne.symm hb)).trans e
  refine wpAny_bind (wpAny_letGo ?_)
  refine extS hh z tt l0 .none _ up (fun g tk ac kc hk up' hac => ?_) few
  exact fin g tk ac kc (fun b o hb e => hk b o hb (ot b o hb e)) up' hac
theorem list_str {z : Str} {tt : Tok} {G : Value → Shared → Prop} (hh : A.handled = none) (few : z.cps.size ≤ sizeLine)
    (fin : ∀ g tk ac kc, (∀ b o, s.heap.get? b = some o → g.get? b = some o) → g.get? s.heap.objs.size = some { cls := .type "list", dict := none, data := .seq ac kc, slots := #[] } → ItemsOf (SignAt z) ac z.cps.size → G (.ref s.heap.objs.size) { s with heap := g, toks := tk }) :
    wpAny (model prog w) A (call (.type "list") [.str z tt]) G E s := by
  refine callType_codes (Q₁ := fun ob st => ob = .ref s.heap.objs.size ∧ st = { s with heap := s.heap.push { cls := .type "list", data := .seq #[] } }) PySem.F.called_list (PySem.F.typeCall_list_1 _) PySem.F.entry_list_init (code_list_new _ ⟨rfl, rfl⟩) fun ob st h1 => ?_
  obtain ⟨rfl, rfl⟩ := h1
  have at0 : (s.heap.push { cls := .type "list", data := .seq #[] }).get? s.heap.objs.size = some { cls := .type "list", data := .seq #[] } := Heap.get?_push_size _ rfl
  refine ⟨⟨_, at0, rfl⟩, PySem.F.args_list_init_2 _ _, initS (A := A.in1) hh z tt _ at0 (fun g tk ac kc hk up hac => ?_) few⟩
  exact ⟨rfl, fin g tk ac kc (fun b o e => hk b o (Nat.ne_of_lt (Heap.lt_size e)) (Heap.get?_push_of_some _ e)) up hac⟩
end
def sgnV (z : Str) : List V := z.cps.toList.map fun c => V.str ⟨#[c]⟩
def rListS : List V → Hp → VK → Prop := fun xs H Q => ∃ z : Str, xs = [.str z] ∧ z.cps.size ≤ sizeLine ∧ ∀ q, H q = none → Q (.ref q) (upd H q (.lst (sgnV z)))
theorem call_listStr {X : Cx} (hc : X.calm = true) : CallR X (.type "list") rListS := by
  intro pins s σ H xs us Q I r h
  obtain ⟨z, rfl, few, q⟩ := h
  obtain ⟨u, rfl, rx⟩ := vals1 r
  obtain ⟨tt, rfl⟩ := rx
  refine list_str (I.ok.hd hc) few fun g tk ac kc hk up hac => ?_
  have hl : (sgnV z).length = z.cps.size := by simp [sgnV]
  refine ⟨.ref s.heap.objs.size, upd H s.heap.objs.size (.lst (sgnV z)), I.laid hk (Nat.le_refl _) (show ObjOk X.prog X.w _ _ _ (.lst (sgnV z)) from ⟨?_, ac.toList, kc, ?_, ?_⟩), rfl, q _ (I.hok.fresh (Nat.le_refl _))⟩
  · rw [hl]; exact few
  · have el : ac.toList.length = ac.size := by simp
    refine vals_of_at (by rw [hl, el, hac.1]) fun j x w0 h1 h2 => ?_
    obtain ⟨c, u, hcx, rfl⟩ := hac.2 j w0 (by rw [← Array.getElem?_toList]; exact h2)
    have e2 : (sgnV z)[j]? = some (V.str ⟨#[c]⟩) := by
      unfold sgnV
      rw [List.getElem?_map, Array.getElem?_toList, hcx] <;> rfl
    rw [e2] at h1
    cases h1
    exact ⟨u, rfl⟩
  · rw [Array.toArray_toList]; exact up
theorem callListS {X : Cx} (hc : X.calm = true) : CallR X (.type "list") rListS := call_listStr hc
/-! ### what is never reached -/
theorem pss_dead {X : Cx} {sts : List Stmt} : PSs X sts (fun _ _ _ => False) := ⟨fun _ _ _ _ _ _ h => h.elim⟩
section
variable {K : PySem.W.Frag} {Γ : Gam} {te : TE} {W : WX} {C : Addr} {sp : Sp} {dvs : List V}
theorem rpa_sgn {F : Hp} : ∀ l : List Nat, RpA K F (l.map fun c => V.str ⟨#[c]⟩) (l.map fun c => D.str ⟨#[c]⟩)
  | [] => .nil
  | c :: l => .cons (.str _) (rpa_sgn l)
theorem rc_listS {z : Str} (hz : z.length ≤ 100000) : RcD K rListS [.str z] (.lst (sgn z)) := fun F H vs s r Q q => by
  cases r with
  | cons r rr =>
    cases rr
    cases r
    refine ⟨z, rfl, Nat.le_trans hz (by decide), fun l hl => ?_⟩
    have g := Gr.new (o := .lst (sgnV z)) s hl
    refine q _ _ _ g (.lst upd_same ?_)
    exact rpa_sgn _
theorem rpa_strs {F : Hp} : ∀ xs : List Str, RpA K F (xs.map V.str) (xs.map D.str)
  | [] => .nil
  | x :: xs => .cons (.str x) (rpa_strs xs)
/-- sorted(list of texts): the one way to lay them -/
theorem rc_sortedS {xs ys : List Str} (hl : xs.length < 64) (h : ∀ zs : List Str, zs.Perm xs → sortedS zs = true → zs = ys) : RcD K (rSortedS K) [.lst (xs.map .str)] (.lst (ys.map .str)) := fun F H vs s r Q q => by
  cases r with
  | cons r rr =>
    cases rr
    cases r with
    | @lst a us _ ha ra =>
      have e := RpA.strs ra
      subst e
      refine ⟨a, xs, rfl, .inl (.inl (s _ _ ha)), hl, fun zs p hp hs hn => ?_⟩
      have ez := h zs hp hs
      subst ez
      have g := Gr.new (o := .lst (zs.map V.str)) s hn
      exact q _ _ _ g (.lst upd_same (rpa_strs zs))
theorem r2_notIn {c : Nat} {z : Str} : R2D K (fun x y H Q => ∃ (c : Nat) (z : Str), x = .str ⟨#[c]⟩ ∧ y = .str z ∧ Q (.bl (!decide (c ∈ z.cps.toList))) H) (.str ⟨#[c]⟩) (.str z) (.bl (!decide (c ∈ z.cps.toList))) := fun F H v w s rv rw Q q => by
  cases rv; cases rw
  exact ⟨c, z, rfl, rfl, q _ F H (Gr.refl s) (.bl _)⟩
theorem xw_arg1 {E : XK} (h : XdW K W te Γ C) : XdW K W (tCall sp dvs E (tCons te tNil)) Γ C := fun F0 H0 F H σ ok fin Q => h F0 H0 F H σ ok fin _
end
/-- two classes are caught -/
def W2 (C1 C2 : Addr) (d1 d2 : D) : Addr → Option D := fun C => if C = C1 then some d1 else if C = C2 then some d2 else none
theorem W2_one {C1 C2 : Addr} {d1 d2 : D} : W2 C1 C2 d1 d2 C1 = some d1 := if_pos rfl
theorem W2_two {C1 C2 : Addr} {d1 d2 : D} (n : C2 ≠ C1) : W2 C1 C2 d1 d2 C2 = some d2 := by
  unfold W2
  rw [if_neg n, if_pos rfl]
theorem W2_ok {P : Program} {w : World} {K : PySem.W.Frag} {mg : Str → Option Value} {base : Heap} {k : Nat} {x : Str} {C1 C2 : Addr} {d1 d2 : D} (c1 : ClE P w K mg base k x C1 d1) (c2 : ClE P w K mg base k x C2 d2) : ∀ C d, W2 C1 C2 d1 d2 C = some d → ClE P w K mg base k x C d := fun C d h => by
  unfold W2 at h
  by_cases e : C = C1
  · subst e
    rw [if_pos rfl] at h
    cases h
    exact c1
  · rw [if_neg e] at h
    by_cases e' : C = C2
    · subst e'
      rw [if_pos rfl] at h
      cases h
      exact c2
    · rw [if_neg e'] at h
      cases h
theorem kit_ne {K : PySem.W.Frag} {C C' : Addr} (h : PySem.W.kitOne K (.ref C) (.ref C') = some false) : C ≠ C' := fun e => by
  subst e
  rw [kit_self] at h
  cases h
end DL

namespace DL
open PySem PySem.Spec PyProof.Rows L2
/-! ### more about texts -/
def rMulS : R2 := fun x y H Q => ∃ (a : Str) (n : Int), x = .str a ∧ y = .int n ∧ MulOk a n ∧ Q (.str (Txt.mul a n)) H
theorem op_mulS {X : Cx} : OpR X (binaryOp .Mult) rMulS := by
  intro pins s σ H x y v u Q I rx ry h
  obtain ⟨a, n, rfl, rfl, ok, q⟩ := h
  obtain ⟨t, rfl⟩ := rx
  obtain ⟨t', rfl⟩ := ry
  exact PySem.SB.mul ok fun t'' k => ⟨.str _, H, I.tok _, ⟨_, rfl⟩, q⟩
section
variable {K : PySem.W.Frag} {Γ : Gam} {to te : TE} {a b : Str} {d : D}
theorem r2_mulS {n : Int} (h : MulOk a n) : R2D K rMulS (.str a) (.int n) (.str (Txt.mul a n)) := fun F H v w s rv rw Q q => by
  cases rv; cases rw
  exact ⟨a, n, rfl, rfl, h, q _ F H (Gr.refl s) (.str _)⟩
theorem rc_strI {i : Int} (h : i.natAbs.log2 < 1920) : RcD K (fun xs H Q => ∃ i, xs = [.int i] ∧ i.natAbs.log2 < 1920 ∧ Q (.str (toString i)) H) [.int i] (.str (Str.ofString (toString i))) := fun F H vs s r Q q => by
  have e := RpA.ints (ns := [i]) r
  exact ⟨i, e, h, q _ F H (Gr.refl s) (.str _)⟩
theorem ed_split (h : Ed K to Γ (.str a)) (h2 : Ed K te Γ (.str b)) (hb : (b.length == 0) = false) (hl : a.length ≤ 100000) :
    Ed K (tM1 (fun x xs H Q => ∃ a b, x = .str a ∧ xs = [.str b] ∧ (b.length == 0) = false ∧ a.length + 2 ≤ sizeLine ∧ rNewStrs (Txt.split a b) H Q) to te) Γ (.lst ((Txt.split a b).map .str)) := fun F0 H0 F H σ ok Q q => h F0 H0 F H σ ok _ fun v F1 H1 g1 r1 => by
  cases r1
  refine ⟨⟨a, rfl⟩, h2 F0 H0 F1 H1 σ (ok.grow g1) _ fun w F2 H2 g2 r2 => ?_⟩
  cases r2
  refine ⟨a, b, rfl, rfl, hb, Nat.le_trans (Nat.add_le_add_right hl 2) (by decide), fun p hp => ?_⟩
  have g3 := g1.trans g2
  have g := Gr.new (o := .lst ((Txt.split a b).map V.str)) g3.s hp
  exact q _ _ _ (g3.trans g) (.lst upd_same (rpa_strs _))
theorem ed_count (h : Ed K to Γ (.str a)) (h2 : Ed K te Γ (.str b)) : Ed K (tM1 (fun x xs H Q => ∃ a b, x = .str a ∧ xs = [.str b] ∧ Q (.int (Txt.count a b)) H) to te) Γ (.int (Txt.count a b)) := fun F0 H0 F H σ ok Q q => h F0 H0 F H σ ok _ fun v F1 H1 g1 r1 => by
  cases r1
  refine ⟨⟨a, rfl⟩, h2 F0 H0 F1 H1 σ (ok.grow g1) _ fun w F2 H2 g2 r2 => ?_⟩
  cases r2
  exact ⟨a, b, rfl, rfl, q _ F2 H2 (g1.trans g2) (.int _)⟩
def isNon : D → Bool
  | .non => true
  | _ => false
theorem ed_isN (h : Ed K te Γ d) : Ed K (tIsN te) Γ (.bl (isNon d)) := fun F0 H0 F H σ ok Q q => h F0 H0 F H σ ok _ fun v F1 H1 g1 r1 => by
  have e : decide (v = .non) = isNon d := by cases r1 <;> rfl
  show Q (.bl (decide (v = .non))) H1
  rw [e]
  exact q _ F1 H1 g1 (.bl _)
theorem ed_notN (h : Ed K te Γ d) : Ed K (tNotN te) Γ (.bl (!isNon d)) := fun F0 H0 F H σ ok Q q => h F0 H0 F H σ ok _ fun v F1 H1 g1 r1 => by
  have e : (!decide (v = .non)) = !isNon d := by cases r1 <;> rfl
  show Q (.bl (!decide (v = .non))) H1
  rw [e]
  exact q _ F1 H1 g1 (.bl _)
theorem et_notN (h : Ed K te Γ d) : Et K (tB (tNotN te)) Γ (!isNon d) := et_B (ed_notN h)
theorem et_isN (h : Ed K te Γ d) : Et K (tB (tIsN te)) Γ (isNon d) := et_B (ed_isN h)
theorem et_chain {r r' : R2} {ta tb tc : TE} {dx dy dz : D} {p q : Bool} (ha : Ed K ta Γ dx) (hb : Ed K tb Γ dy) (h1 : R2D K r dx dy (.bl p)) (h2 : p = true → Ed K tc Γ dz ∧ R2D K r' dy dz (.bl q)) : Et K (tTest (tChain r r' ta tb tc)) Γ (p && q) := et_test (ed_chain ha hb h1 h2)
end
end DL

set_option Elab.async false
set_option linter.all false
set_option maxRecDepth 100000
set_option maxHeartbeats 4000000
open PySem PySem.Spec PyProof.Rows L2 DL
local macro_rules | `(tactic| wtm_at "ed") => `(tactic| first
  | with_reducible exact ed_int _
  | with_reducible exact ed_bl _
  | with_reducible exact ed_dct
  | with_reducible exact ed_non
  | with_reducible exact ed_str _
  | with_reducible exact ed_ty _
  | with_reducible exact ed_adr _
  | ((with_reducible apply ed_fz); exact rfl)
  | with_reducible apply ed_op
  | with_reducible apply ed_un
  | with_reducible apply ed_cb
  | with_reducible apply ed_call
  | with_reducible apply ed_callX
  | with_reducible apply ed_tup
  | with_reducible apply ed_lst
  | with_reducible apply ed_sl
  | with_reducible exact eo_none
  | with_reducible apply eo_some
  | with_reducible exact ea_nil
  | with_reducible apply ea_cons
  | with_reducible apply et_test
  | with_reducible apply et_B
  | with_reducible apply et_not
  | with_reducible exact et_yes
  | with_reducible apply ed_notV
  | ((with_reducible show autoParam _ _); exact Nat.le_of_ble_eq_true rfl)
  | wtm_at "rr")
local macro_rules | `(tactic| wtm_at "rr") => `(tactic| first
  | with_reducible exact r2_addI
  | with_reducible exact r2_subI
  | with_reducible exact r2_ltI
  | with_reducible exact r2_leI
  | with_reducible exact r2_gt
  | with_reducible exact r2_ge
  | with_reducible exact r2_eqI
  | with_reducible exact r2_neI
  | with_reducible exact r2_isB
  | with_reducible exact r2_notB
  | with_reducible exact r1_neg
  | with_reducible exact rc_abs
  | with_reducible exact rc_max2
  | with_reducible exact rc_lenL
  | with_reducible exact rc_lenT
  | with_reducible exact rc_lenP
  | with_reducible exact rc_intB
  | with_reducible exact rs_lst
  | with_reducible exact rs_scr
  | ((with_reducible apply r2_mod); first | decide | omega | skip)
  | ((with_reducible apply r2_ixT); exact rfl)
  | ((with_reducible apply r2_ixL); first | exact rfl | skip)
  | with_reducible apply r2_mulI
  | ((with_reducible apply rc_isi) <;> first | exact rfl | decide +kernel | skip))
namespace Kx
def topS (i : Nat) : Stmt := PySem.Challenge.pw_weighwords_k03_written.main.body.getD i (.Pass ⟨0, 0, 0, 0⟩)

abbrev s_is_whole : Stmt := topS 10
theorem sc_is_whole : FnScope ["thing"] ["thing"] (defScope s_is_whole) := ⟨rfl, rfl, rfl, by decide +kernel, rfl, by decide +kernel, by decide +kernel⟩
abbrev s_divisor : Stmt := topS 11
theorem sc_divisor : FnScope ["one", "other", "rest"] ["one", "other"] (defScope s_divisor) := ⟨rfl, rfl, rfl, by decide +kernel, rfl, by decide +kernel, by decide +kernel⟩
abbrev s_is_share : Stmt := topS 12
theorem sc_is_share : FnScope ["thing"] ["thing"] (defScope s_is_share) := ⟨rfl, rfl, rfl, by decide +kernel, rfl, by decide +kernel, by decide +kernel⟩
abbrev s_written : Stmt := topS 16
theorem sc_written : FnScope ["part"] ["part"] (defScope s_written) := ⟨rfl, rfl, rfl, by decide +kernel, rfl, by decide +kernel, by decide +kernel⟩
abbrev s_number_in : Stmt := topS 17
theorem sc_number_in : FnScope ["word", "figures", "sign"] ["word"] (defScope s_number_in) := ⟨rfl, rfl, rfl, by decide +kernel, rfl, by decide +kernel, by decide +kernel⟩
abbrev s_read : Stmt := topS 18
theorem sc_read : FnScope ["text", "words", "part"] ["text"] (defScope s_read) := ⟨rfl, rfl, rfl, by decide +kernel, rfl, by decide +kernel, by decide +kernel⟩
abbrev s_law_cell_at : Stmt := topS 20
theorem sc_law_cell_at : FnScope ["_law_script", "_law_k"] ["_law_script", "_law_k"] (defScope s_law_cell_at) := ⟨rfl, rfl, rfl, by decide +kernel, rfl, by decide +kernel, by decide +kernel⟩
abbrev s_law_whole : Stmt := topS 21
theorem sc_law_whole : FnScope ["_law_found"] ["_law_found"] (defScope s_law_whole) := ⟨rfl, rfl, rfl, by decide +kernel, rfl, by decide +kernel, by decide +kernel⟩
abbrev s_law_common : Stmt := topS 22
theorem sc_law_common : FnScope ["_law_one", "_law_other"] ["_law_one", "_law_other"] (defScope s_law_common) := ⟨rfl, rfl, rfl, by decide +kernel, rfl, by decide +kernel, by decide +kernel⟩
abbrev s_law_share : Stmt := topS 23
theorem sc_law_share : FnScope ["_law_top", "_law_bottom", "_law_common_here"] ["_law_top", "_law_bottom"] (defScope s_law_share) := ⟨rfl, rfl, rfl, by decide +kernel, rfl, by decide +kernel, by decide +kernel⟩
abbrev s_law_is : Stmt := topS 24
theorem sc_law_is : FnScope ["_law_found", "_law_due"] ["_law_found", "_law_due"] (defScope s_law_is) := ⟨rfl, rfl, rfl, by decide +kernel, rfl, by decide +kernel, by decide +kernel⟩
abbrev s_law_number : Stmt := topS 25
theorem sc_law_number : FnScope ["_law_cell"] ["_law_cell"] (defScope s_law_number) := ⟨rfl, rfl, rfl, by decide +kernel, rfl, by decide +kernel, by decide +kernel⟩
abbrev s_law_word_of : Stmt := topS 26
theorem sc_law_word_of : FnScope ["_law_e", "_law_found"] ["_law_e"] (defScope s_law_word_of) := ⟨rfl, rfl, rfl, by decide +kernel, rfl, by decide +kernel, by decide +kernel⟩
abbrev s_law_figures : Stmt := topS 27
theorem sc_law_figures : FnScope ["_law_word", "_law_figures_here", "_law_sign", "_law_found"] ["_law_word"] (defScope s_law_figures) := ⟨rfl, rfl, rfl, by decide +kernel, rfl, by decide +kernel, by decide +kernel⟩
abbrev s_law_read_here : Stmt := topS 28
theorem sc_law_read_here : FnScope ["_law_text", "_law_words", "_law_top", "_law_bottom"] ["_law_text"] (defScope s_law_read_here) := ⟨rfl, rfl, rfl, by decide +kernel, rfl, by decide +kernel, by decide +kernel⟩
abbrev s_law_told : Stmt := topS 29
theorem sc_law_told : FnScope ["_law_text", "_law_e"] ["_law_text"] (defScope s_law_told) := ⟨rfl, rfl, rfl, by decide +kernel, rfl, by decide +kernel, by decide +kernel⟩
abbrev s_law_changed : Stmt := topS 30
theorem sc_law_changed : FnScope ["_law_text", "_law_cell", "_law_some", "_law_at", "_law_sign"] ["_law_text", "_law_cell"] (defScope s_law_changed) := ⟨rfl, rfl, rfl, by decide +kernel, rfl, by decide +kernel, by decide +kernel⟩
abbrev s_law_odd : Stmt := topS 31
theorem sc_law_odd : FnScope ["_law_cell", "_law_some"] ["_law_cell"] (defScope s_law_odd) := ⟨rfl, rfl, rfl, by decide +kernel, rfl, by decide +kernel, by decide +kernel⟩
abbrev s_law : Stmt := topS 32
theorem sc_law : FnScope ["_law_script", "_law_top", "_law_part", "_law_text", "_law_found", "_law_cell", "_law_other", "_law_due", "_law_told_here"] ["_law_script"] (defScope s_law) := ⟨rfl, rfl, rfl, by decide +kernel, rfl, by decide +kernel, by decide +kernel⟩

structure Tx (K : PySem.W.Frag) (mg : Str → Option Value) (a_WeighError a_Nought a_NoText a_NoRow a_NoMachine a_NoWord a_OtherSigns a_TooMany : Addr) : Prop where
  d_is_whole : Df K mg "is_whole" ["thing"] s_is_whole
  d_divisor : Df K mg "divisor" ["one", "other"] s_divisor
  d_is_share : Df K mg "is_share" ["thing"] s_is_share
  d_written : Df K mg "written" ["part"] s_written
  d_number_in : Df K mg "number_in" ["word"] s_number_in
  d_read : Df K mg "read" ["text"] s_read
  d__law_cell_at : Df K mg "_law_cell_at" ["_law_script", "_law_k"] s_law_cell_at
  d__law_whole : Df K mg "_law_whole" ["_law_found"] s_law_whole
  d__law_common : Df K mg "_law_common" ["_law_one", "_law_other"] s_law_common
  d__law_share : Df K mg "_law_share" ["_law_top", "_law_bottom"] s_law_share
  d__law_is : Df K mg "_law_is" ["_law_found", "_law_due"] s_law_is
  d__law_number : Df K mg "_law_number" ["_law_cell"] s_law_number
  d__law_word_of : Df K mg "_law_word_of" ["_law_e"] s_law_word_of
  d__law_figures : Df K mg "_law_figures" ["_law_word"] s_law_figures
  d__law_read_here : Df K mg "_law_read_here" ["_law_text"] s_law_read_here
  d__law_told : Df K mg "_law_told" ["_law_text"] s_law_told
  d__law_changed : Df K mg "_law_changed" ["_law_text", "_law_cell"] s_law_changed
  d__law_odd : Df K mg "_law_odd" ["_law_cell"] s_law_odd
  d_law : Df K mg "law" ["_law_script"] s_law
  n_isinstance : mg "isinstance" = none
  n_int : mg "int" = none
  n_bool : mg "bool" = none
  n_tuple : mg "tuple" = none
  n_len : mg "len" = none
  n_abs : mg "abs" = none
  n_str : mg "str" = none
  n_all : mg "all" = none
  n_ValueError : mg "ValueError" = none
  n_max : mg "max" = none
  m_WeighError : mg "WeighError" = some (.ref a_WeighError)
  m_Nought : mg "Nought" = some (.ref a_Nought)
  m_NoText : mg "NoText" = some (.ref a_NoText)
  m_NoRow : mg "NoRow" = some (.ref a_NoRow)
  m_NoMachine : mg "NoMachine" = some (.ref a_NoMachine)
  m_NoWord : mg "NoWord" = some (.ref a_NoWord)
  m_OtherSigns : mg "OtherSigns" = some (.ref a_OtherSigns)
  m_TooMany : mg "TooMany" = some (.ref a_TooMany)
  x_WeighError : PySem.W.excIn K a_WeighError [.type "ValueError", .type "Exception", .type "BaseException", .type "object"] "ValueError.__new__" = true
  k_WeighError : PySem.W.keepIn K (.ref a_WeighError) = true
  b_WeighError : PySem.W.subIn K (.ref a_WeighError) (.type "BaseException") = some true
  t_WeighError : PySem.W.typeIn K (.ref a_WeighError) = some (.type "type")
  x_Nought : PySem.W.excIn K a_Nought [.type "ValueError", .type "Exception", .type "BaseException", .type "object"] "ValueError.__new__" = true
  k_Nought : PySem.W.keepIn K (.ref a_Nought) = true
  b_Nought : PySem.W.subIn K (.ref a_Nought) (.type "BaseException") = some true
  t_Nought : PySem.W.typeIn K (.ref a_Nought) = some (.type "type")
  x_NoText : PySem.W.excIn K a_NoText [.type "ValueError", .type "Exception", .type "BaseException", .type "object"] "ValueError.__new__" = true
  k_NoText : PySem.W.keepIn K (.ref a_NoText) = true
  b_NoText : PySem.W.subIn K (.ref a_NoText) (.type "BaseException") = some true
  t_NoText : PySem.W.typeIn K (.ref a_NoText) = some (.type "type")
  x_NoRow : PySem.W.excIn K a_NoRow [.type "ValueError", .type "Exception", .type "BaseException", .type "object"] "ValueError.__new__" = true
  k_NoRow : PySem.W.keepIn K (.ref a_NoRow) = true
  b_NoRow : PySem.W.subIn K (.ref a_NoRow) (.type "BaseException") = some true
  t_NoRow : PySem.W.typeIn K (.ref a_NoRow) = some (.type "type")
  x_NoMachine : PySem.W.excIn K a_NoMachine [.type "ValueError", .type "Exception", .type "BaseException", .type "object"] "ValueError.__new__" = true
  k_NoMachine : PySem.W.keepIn K (.ref a_NoMachine) = true
  b_NoMachine : PySem.W.subIn K (.ref a_NoMachine) (.type "BaseException") = some true
  t_NoMachine : PySem.W.typeIn K (.ref a_NoMachine) = some (.type "type")
  x_NoWord : PySem.W.excIn K a_NoWord [.type "ValueError", .type "Exception", .type "BaseException", .type "object"] "ValueError.__new__" = true
  k_NoWord : PySem.W.keepIn K (.ref a_NoWord) = true
  b_NoWord : PySem.W.subIn K (.ref a_NoWord) (.type "BaseException") = some true
  t_NoWord : PySem.W.typeIn K (.ref a_NoWord) = some (.type "type")
  x_OtherSigns : PySem.W.excIn K a_OtherSigns [.type "ValueError", .type "Exception", .type "BaseException", .type "object"] "ValueError.__new__" = true
  k_OtherSigns : PySem.W.keepIn K (.ref a_OtherSigns) = true
  b_OtherSigns : PySem.W.subIn K (.ref a_OtherSigns) (.type "BaseException") = some true
  t_OtherSigns : PySem.W.typeIn K (.ref a_OtherSigns) = some (.type "type")
  x_TooMany : PySem.W.excIn K a_TooMany [.type "ValueError", .type "Exception", .type "BaseException", .type "object"] "ValueError.__new__" = true
  k_TooMany : PySem.W.keepIn K (.ref a_TooMany) = true
  b_TooMany : PySem.W.subIn K (.ref a_TooMany) (.type "BaseException") = some true
  t_TooMany : PySem.W.typeIn K (.ref a_TooMany) = some (.type "type")
  em_NoText : PySem.W.exmOne K (.ref a_NoText) (.ref a_WeighError) = some true
  ge_NoText : ExcC K a_NoText
  is_NoText_Nought : PySem.W.kitOne K (.ref a_NoText) (.ref a_Nought) = some false
  is_NoText_NoText : PySem.W.kitOne K (.ref a_NoText) (.ref a_NoText) = some true
  is_NoText_NoRow : PySem.W.kitOne K (.ref a_NoText) (.ref a_NoRow) = some false
  is_NoText_NoMachine : PySem.W.kitOne K (.ref a_NoText) (.ref a_NoMachine) = some false
  is_NoText_NoWord : PySem.W.kitOne K (.ref a_NoText) (.ref a_NoWord) = some false
  is_NoText_OtherSigns : PySem.W.kitOne K (.ref a_NoText) (.ref a_OtherSigns) = some false
  is_NoText_TooMany : PySem.W.kitOne K (.ref a_NoText) (.ref a_TooMany) = some false
  iv_NoText : PySem.W.kitOne K (.ref a_NoText) (.type "ValueError") = some true
  m_FIGURES : ∃ t, mg "FIGURES" = some (.str "0123456789" t)
  m_MOST_FIGURES : ∃ t, mg "MOST_FIGURES" = some (.int 60 t)
section
variable {P : Program} {w : World} {K : PySem.W.Frag} {mg : Str → Option Value} {base : Heap} {a_WeighError a_Nought a_NoText a_NoRow a_NoMachine a_NoWord a_OtherSigns a_TooMany : Addr}
/-! ### shares: divisor, is_whole, is_share, share -/
theorem sd_whileE {K : PySem.W.Frag} {E : XK} {t : TT} {ts : TS} {Γ : Gam} {o : Oc} (h : ∃ n, LoopW K E t ts n Γ o) : Sd K E (tWhile t ts) Γ o := by
  obtain ⟨n, h⟩ := h
  exact sd_while h
def Sdiv : List D → D → Prop := fun ds d => ∃ a b : Nat, ds = [.int a, .int b] ∧ d = .int (Nat.gcd a b : Nat)
theorem ok_divisor (T : Tx K mg a_WeighError a_Nought a_NoText a_NoRow a_NoMachine a_NoWord a_OtherSigns a_TooMany) : Cl P w K mg base CX0 1 "divisor" (spR K Sdiv) := by
  refine clR T.d_divisor sc_divisor (fun ds d h => by obtain ⟨a, b, rfl, _⟩ := h; rfl) fun f cdv A outer s H E hr => ?_
  refine ⟨_, (pss_cons (ps_while PassesOwn.never (pt_cmpR op_gt (pv 1) pe_int (nomark _))
  (pss_cons (ps_set (i := 2) sc_divisor.nd rfl (by first | exact Or.inl rfl | exact Or.inr rfl) (pe_op op_mod (pv 0) (pv 1)))
  (pss_cons (ps_set (i := 0) sc_divisor.nd rfl (by first | exact Or.inl rfl | exact Or.inr rfl) (pv 1))
  (pss_one (ps_set (i := 1) sc_divisor.nd rfl (by first | exact Or.inl rfl | exact Or.inr rfl) (pv 2))))))
  (pss_one (ps_ret (pv 0)))), fun ds d h => ?_⟩
  obtain ⟨a, b, rfl, rfl⟩ := h
  refine sd_seq (Γ1 := [.fz (.int (Nat.gcd a b : Nat)), .fz (.int 0), .no]) (sd_whileE ?_) (sd_ret (ed_fz 0 rfl))
  show ∃ n, LoopW K E0 _ _ n [.fz (.int a), .fz (.int b), .no] _
  induction b using Nat.strongRecOn generalizing a with
  | _ b ih =>
    have test : Et K (tTest (tOp (rI0 fun i j => .bl (decide (j < i))) (tVar 1) (tC (.int 0)))) [.fz (.int a), .fz (.int b), .no] (decide ((0 : Int) < b)) := et_test (ed_op (ed_fz 1 rfl) (ed_int 0) r2_gt)
    by_cases hb : b = 0
    · subst hb
      rw [Nat.gcd_zero_right]
      exact ⟨0, .done test⟩
    · obtain ⟨n, hn⟩ := ih (a % b) (Nat.mod_lt _ (Nat.pos_of_ne_zero hb)) b
      rw [show Nat.gcd b (a % b) = Nat.gcd a b by rw [Nat.gcd_comm b, ← Nat.gcd_rec, Nat.gcd_comm]] at hn
      refine ⟨n + 1, .step (et_is test (decide_eq_true (by omega))) ?_ hn⟩
      refine Sd.lpLe (Γ1 := [.fz (.int b), .fz (.int ((a : Int) % b)), .fz (.int ((a : Int) % b))]) (Sd.toLp ?_) ?_
      · exact sd_seq (sd_set 2 (ed_op (ed_fz 0 rfl) (ed_fz 1 rfl) (r2_mod (by omega)))) (sd_seq (sd_set 0 (ed_fz 1 rfl)) (sd_set 1 (ed_fz 2 rfl)))
      · exact .cons (.inr rfl) (.cons (.inr rfl) (.cons (.inl rfl) .nil))
def isInt : D → Bool
  | .int _ => true
  | _ => false
def Swh : List D → D → Prop := fun ds d => ∃ x T, ds = [x] ∧ tyD x = some T ∧ d = .bl (isInt x)
theorem isi_kind (x : D) {T : String} (h : tyD x = some T) : kitB T "int" = some (isInt x || T == "bool") ∧ kitB T "bool" = some (T == "bool") ∧ kitB T "tuple" = some (T == "tuple") ∧ isInt x = (T == "int") := by
  cases x <;> first | (cases h; done) | (cases h; refine ⟨?_, ?_, ?_, ?_⟩ <;> first | decide +kernel | (simp only [isInt]; decide +kernel))
def isSh : D → Bool
  | .tup [.int a, .int b] => decide (0 < b) && decide (Nat.gcd a.natAbs b.toNat = 1)
  | _ => false
def Sis : List D → D → Prop := fun ds d => ∃ x, ds = [x] ∧ (∃ T, tyD x = some T) ∧ (∀ a b, x = .tup [a, b] → (∃ T, tyD a = some T) ∧ ∃ T, tyD b = some T) ∧ d = .bl (isSh x)
/-- the share of two whole numbers, the bottom not nought -/
def cmn (t b : Int) : Int := if b < 0 then 0 - (Nat.gcd t.natAbs b.natAbs : Nat) else (Nat.gcd t.natAbs b.natAbs : Nat)
def mkS (t b : Int) : Int × Int := (t.fdiv (cmn t b), b.fdiv (cmn t b))
abbrev sh (p : Int × Int) : D := .tup [.int p.1, .int p.2]
theorem cmn_ne {t b : Int} (hb : b ≠ 0) : cmn t b ≠ 0 := by
  have h : 0 < Nat.gcd t.natAbs b.natAbs := Nat.gcd_pos_of_pos_right _ (by omega)
  unfold cmn
  split <;> omega
theorem cmn_fd {t b x : Int} (hb : b ≠ 0) (h : b.natAbs.log2 < 9000) : CFd x (cmn t b) := by
  refine ⟨cmn_ne hb, ?_⟩
  have e : (cmn t b).natAbs = Nat.gcd t.natAbs b.natAbs := by unfold cmn; split <;> omega
  rw [e]
  have le : Nat.gcd t.natAbs b.natAbs ≤ b.natAbs := Nat.gcd_le_right _ (by omega)
  have hp : 0 < Nat.gcd t.natAbs b.natAbs := Nat.gcd_pos_of_pos_right _ (by omega)
  have h2 := (Nat.log2_lt (by omega)).mp h
  exact (Nat.log2_lt (by omega)).mpr (Nat.lt_of_le_of_lt le h2)

theorem ok_is_whole (T : Tx K mg a_WeighError a_Nought a_NoText a_NoRow a_NoMachine a_NoWord a_OtherSigns a_TooMany) : Cl P w K mg base CX0 1 "is_whole" (spR K Swh) := by
  refine clR T.d_is_whole sc_is_whole (fun ds d h => by obtain ⟨a, b, rfl, _⟩ := h; rfl) fun f cdv A outer s H E hr => ?_
  refine ⟨_, (pss_one (ps_ret (pe_and (pe_callB call_isi (by rfl) T.n_isinstance bt_isinstance (pa_cons (pv 0) (pa_cons (pe_bltn (v := .ty "int") (by rfl) T.n_int bt_int rfl) pa_nil))) (pe_one (pe_not (pe_callB call_isi (by rfl) T.n_isinstance bt_isinstance (pa_cons (pv 0) (pa_cons (pe_bltn (v := .ty "bool") (by rfl) T.n_bool bt_bool rfl) pa_nil)))))))), fun ds d h => ?_⟩
  obtain ⟨x, U, rfl, hx, rfl⟩ := h
  obtain ⟨h1, h2, h3, h4⟩ := isi_kind x hx
  refine sd_ret (ed_is (ed_andV (ed_cb (ea_cons (ed_fz 0 rfl) (ea_cons (ed_ty _) ea_nil)) (rc_isi hx h1)) fun _ => ed_notV (ed_cb (ea_cons (ed_fz 0 rfl) (ea_cons (ed_ty _) ea_nil)) (rc_isi hx h2))) ?_)
  rw [h4]
  by_cases e : U = "int"
  · subst e; rfl
  · by_cases e2 : U = "bool"
    · subst e2; rfl
    · rw [beq_eq_false_iff_ne.mpr e, beq_eq_false_iff_ne.mpr e2]; rfl

theorem ok_is_share (T : Tx K mg a_WeighError a_Nought a_NoText a_NoRow a_NoMachine a_NoWord a_OtherSigns a_TooMany) (c_is_whole : Cl P w K mg base CX0 1 "is_whole" (spR K Swh)) (c_divisor : Cl P w K mg base CX0 1 "divisor" (spR K Sdiv)) : Cl P w K mg base CX0 2 "is_share" (spR K Sis) := by
  refine clR T.d_is_share sc_is_share (fun ds d h => by obtain ⟨a, rfl, _⟩ := h; rfl) fun f cdv A outer s H E hr => ?_
  refine ⟨_, (pss_cons (ps_if (PW.pt (pw_or (pt_not (pt_val (pe_callB call_isi (by rfl) T.n_isinstance bt_isinstance (pa_cons (pv 0) (pa_cons (pe_bltn (v := .ty "tuple") (by rfl) T.n_tuple bt_tuple rfl) pa_nil))))) (pw_or (pt_cmpR (op_neD hr.units) (pe_callB callLen (by rfl) T.n_len bt_len (pa_cons (pv 0) pa_nil)) pe_int (nomark _)) (pw_or (pt_not (pt_val (pcl c_is_whole hr (by decide) rfl (pa_cons (pe_ix ix_seq (pv 0) pe_int (fun _ _ => rfl)) pa_nil)))) (pw_or1 (pt_not (pt_val (pcl c_is_whole hr (by decide) rfl (pa_cons (pe_ix ix_seq (pv 0) pe_int (fun _ _ => rfl)) pa_nil)))))))))
  (pss_one (ps_ret pe_bl))
  pss_nil)
  (pss_one (ps_ret (pe_and (pe_cmpR op_gt (pe_ix ix_seq (pv 0) pe_int (fun _ _ => rfl)) pe_int (nomark _)) (pe_one (pe_cmpR (op_eqD hr.units) (pcl c_divisor hr (by decide) rfl (pa_cons (pe_callB call_abs (by rfl) T.n_abs bt_abs (pa_cons (pe_ix ix_seq (pv 0) pe_int (fun _ _ => rfl)) pa_nil)) (pa_cons (pe_ix ix_seq (pv 0) pe_int (fun _ _ => rfl)) pa_nil))) pe_int (nomark _))))))), fun ds d h => ?_⟩
  obtain ⟨x, rfl, ⟨U, hx⟩, hab, rfl⟩ := h
  have isw : ∀ {te : TE} {Γ : Gam} {y : D}, (∃ T, tyD y = some T) → Ed K te Γ y → Ed K (tCall (spR K Swh) [] E0 (tCons te tNil)) Γ (.bl (isInt y)) := fun {te Γ y} ⟨T, h⟩ he => ed_call (ea_cons he ea_nil) ⟨y, T, rfl, h, rfl⟩
  have ix : ∀ {es : List D} {i : Int} {y : D}, atI es i = some y → Ed K (tOp (rIx K) (tVar 0) (tC (.int i))) [.fz (.tup es)] y := fun {es i y} h => ed_op (ed_fz 0 rfl) (ed_int i) (r2_ixT h)
  have isT : ∀ es : List D, Et K (tNot (tB (tCB (rIsi K) (tCons (tVar 0) (tCons (tC (.ty "tuple")) tNil))))) [.fz (.tup es)] false := fun es => et_nF (et_B (ed_cb (ea_cons (ed_fz 0 rfl) (ea_cons (ed_ty _) ea_nil)) (rc_isi rfl (by decide +kernel))))
  have len : ∀ es : List D, Et K (tTest (tOp (rNeD K) (tCB (rLenA K) (tCons (tVar 0) tNil)) (tC (.int 2)))) [.fz (.tup es)] (!decide ((es.length : Int) = 2)) := fun es => et_test (ed_op (ed_cb (ea_cons (ed_fz 0 rfl) ea_nil) rc_lenT) (ed_int 2) r2_neI)
  cases x with
  | tup es =>
    show Sd K E0 _ [.fz (.tup es)] _
    by_cases hl : es.length = 2
    · obtain ⟨a, b, rfl⟩ : ∃ a b, es = [a, b] := by
        match es, hl with
        | [a, b], _ => exact ⟨a, b, rfl⟩
      obtain ⟨ha, hb⟩ := hab a b rfl
      have l2 := et_is (len [a, b]) (show (!decide ((([a, b] : List D).length : Int) = 2)) = false from rfl)
      have wa := isw ha (ix (es := [a, b]) (i := 0) (y := a) rfl)
      have wb := isw hb (ix (es := [a, b]) (i := 1) (y := b) rfl)
      cases qa : isInt a with
      | false =>
        rw [qa] at wa
        have e : isSh (.tup [a, b]) = false := by cases a <;> first | rfl | cases qa
        rw [e]
        exact sd_stop (sd_ifT (et_orF (isT _) (et_orF l2 (et_orT (et_nT (et_B wa))))) (sd_ret (ed_bl false))) rfl
      | true =>
        rw [qa] at wa
        cases qb : isInt b with
        | false =>
          rw [qb] at wb
          have e : isSh (.tup [a, b]) = false := by cases a <;> cases b <;> first | rfl | cases qb
          rw [e]
          exact sd_stop (sd_ifT (et_orF (isT _) (et_orF l2 (et_orF (et_nF (et_B wa)) (et_nT (et_B wb))))) (sd_ret (ed_bl false))) rfl
        | true =>
          rw [qb] at wb
          obtain ⟨i, rfl⟩ : ∃ i, a = .int i := by cases a <;> first | exact ⟨_, rfl⟩ | cases qa
          obtain ⟨j, rfl⟩ : ∃ j, b = .int j := by cases b <;> first | exact ⟨_, rfl⟩ | cases qb
          refine sd_seq (Γ1 := [.fz (.tup [.int i, .int j])]) (sd_ifF (et_orF (isT _) (et_orF l2 (et_orF (et_nF (et_B wa)) (et_nF (et_B wb))))) sd_next) ?_
          refine sd_ret (ed_is (ed_andV (ed_op (ix rfl) (ed_int 0) r2_gt) fun h => ed_op (ed_call (ea_cons (ed_cb (ea_cons (ix rfl) ea_nil) rc_abs) (ea_cons (ix rfl) ea_nil)) ⟨i.natAbs, j.toNat, ?_, rfl⟩) (ed_int 1) r2_eqI) ?_)
          · have h' : 0 < j := of_decide_eq_true h
            rw [Int.toNat_of_nonneg (by omega)]
          · show D.bl (_ && _) = D.bl (_ && _)
            congr 2
            exact decide_eq_decide.mpr (by omega)
    · have e : isSh (.tup es) = false := by
        match es, hl with
        | [], _ => rfl
        | [a], _ => cases a <;> rfl
        | a :: b :: c :: r, _ => cases a <;> first | rfl | (cases b <;> rfl)
        | [a, b], h => exact absurd rfl h
      rw [e]
      exact sd_stop (sd_ifT (et_orF (isT _) (et_orT (et_is (len es) (by rw [decide_eq_false (by omega)]; rfl)))) (sd_ret (ed_bl false))) rfl
  | _ => first
    | (cases hx; done)
    | (cases hx; exact sd_stop (sd_ifT (et_orT (et_nT (et_B (ed_cb (ea_cons (ed_fz 0 rfl) (ea_cons (ed_ty _) ea_nil)) (rc_isi rfl (by decide +kernel)))))) (sd_ret (ed_bl false))) rfl)


theorem ok_word_NoText (T : Tx K mg a_WeighError a_Nought a_NoText a_NoRow a_NoMachine a_NoWord a_OtherSigns a_TooMany) : ClE P w K mg base 1 "_law_word_of" a_NoText (.tup [.str "refused", .str "text"]) := by
  refine clE T.d__law_word_of sc_law_word_of rfl fun f cdv A outer s H p hz hf hr => ?_
  refine ⟨_, (pss_cons (ps_set (i := 1) sc_law_word_of.nd rfl (by first | exact Or.inl rfl | exact Or.inr rfl) (pe_op opAdd (pe_op opMul (pe_lst (pa_cons pe_str pa_nil)) (pe_callTy callInt (by rfl) T.n_int bt_int (pa_cons (pe_callB (call_isP (p := p) List.mem_cons_self T.ge_NoText hz hf) (by rfl) T.n_isinstance bt_isinstance (pa_cons (pv 0) (pa_cons (pe_glob (v := .ref a_Nought) rfl T.m_Nought rfl) pa_nil))) pa_nil))) (pe_op opMul (pe_lst (pa_cons pe_str pa_nil)) (pe_callTy callInt (by rfl) T.n_int bt_int (pa_cons (pe_callB (call_isP (p := p) List.mem_cons_self T.ge_NoText hz hf) (by rfl) T.n_isinstance bt_isinstance (pa_cons (pv 0) (pa_cons (pe_glob (v := .ref a_NoText) rfl T.m_NoText rfl) pa_nil))) pa_nil)))))
  (pss_cons (ps_set (i := 1) sc_law_word_of.nd rfl (by first | exact Or.inl rfl | exact Or.inr rfl) (pe_op opAdd (pe_op opAdd (pv 1) (pe_op opMul (pe_lst (pa_cons pe_str pa_nil)) (pe_callTy callInt (by rfl) T.n_int bt_int (pa_cons (pe_callB (call_isP (p := p) List.mem_cons_self T.ge_NoText hz hf) (by rfl) T.n_isinstance bt_isinstance (pa_cons (pv 0) (pa_cons (pe_glob (v := .ref a_NoRow) rfl T.m_NoRow rfl) pa_nil))) pa_nil)))) (pe_op opMul (pe_lst (pa_cons pe_str pa_nil)) (pe_callTy callInt (by rfl) T.n_int bt_int (pa_cons (pe_callB (call_isP (p := p) List.mem_cons_self T.ge_NoText hz hf) (by rfl) T.n_isinstance bt_isinstance (pa_cons (pv 0) (pa_cons (pe_glob (v := .ref a_NoMachine) rfl T.m_NoMachine rfl) pa_nil))) pa_nil)))))
  (pss_cons (ps_set (i := 1) sc_law_word_of.nd rfl (by first | exact Or.inl rfl | exact Or.inr rfl) (pe_op opAdd (pe_op opAdd (pv 1) (pe_op opMul (pe_lst (pa_cons pe_str pa_nil)) (pe_callTy callInt (by rfl) T.n_int bt_int (pa_cons (pe_callB (call_isP (p := p) List.mem_cons_self T.ge_NoText hz hf) (by rfl) T.n_isinstance bt_isinstance (pa_cons (pv 0) (pa_cons (pe_glob (v := .ref a_NoWord) rfl T.m_NoWord rfl) pa_nil))) pa_nil)))) (pe_op opMul (pe_lst (pa_cons pe_str pa_nil)) (pe_callTy callInt (by rfl) T.n_int bt_int (pa_cons (pe_callB (call_isP (p := p) List.mem_cons_self T.ge_NoText hz hf) (by rfl) T.n_isinstance bt_isinstance (pa_cons (pv 0) (pa_cons (pe_glob (v := .ref a_OtherSigns) rfl T.m_OtherSigns rfl) pa_nil))) pa_nil)))))
  (pss_cons (ps_set (i := 1) sc_law_word_of.nd rfl (by first | exact Or.inl rfl | exact Or.inr rfl) (pe_op opAdd (pe_op opAdd (pv 1) (pe_op opMul (pe_lst (pa_cons pe_str pa_nil)) (pe_callTy callInt (by rfl) T.n_int bt_int (pa_cons (pe_callB (call_isP (p := p) List.mem_cons_self T.ge_NoText hz hf) (by rfl) T.n_isinstance bt_isinstance (pa_cons (pv 0) (pa_cons (pe_glob (v := .ref a_TooMany) rfl T.m_TooMany rfl) pa_nil))) pa_nil)))) (pe_op opMul (pe_lst (pa_cons pe_str pa_nil)) (pe_callTy callInt (by rfl) T.n_int bt_int (pa_cons (pe_not (pe_callB (call_isP (p := p) List.mem_cons_self T.ge_NoText hz hf) (by rfl) T.n_isinstance bt_isinstance (pa_cons (pv 0) (pa_cons (pe_bltn (v := .ty "ValueError") (by rfl) T.n_ValueError bt_ValueError rfl) pa_nil)))) pa_nil)))))
  (pss_one (ps_ret (pe_tup (pa_cons pe_str (pa_cons (pe_join pe_str (pv 1)) pa_nil))))))))), ?_⟩
  have item : ∀ {Γ : Gam} {x : Str} {D' : Addr} {b : Bool}, Γ[0]? = some (.fz (.adr p.1)) → PySem.W.kitOne K (.ref a_NoText) (.ref D') = some b →
      Ed K (tOp rMulA (tLst (tCons (tC (.str x)) tNil)) (tCB rIntA (tCons (tCB (rIsE K a_NoText p.1) (tCons (tVar 0) (tCons (tC (.ref D')) tNil))) tNil))) Γ (.lst (if b then [.str x] else [])) := fun {Γ x D' b} h k =>
    ed_is (ed_op (ed_lst (ea_cons (ed_str _) ea_nil)) (ed_cb (ea_cons (ed_cb (ea_cons (ed_fz 0 h) (ea_cons (ed_adr _) ea_nil)) (rc_isP k)) ea_nil) rc_intB) (r2_mulL (Nat.le_of_ble_eq_true (by cases b <;> rfl)) (by cases b <;> decide))) (by cases b <;> rfl)
  have bare : ∀ {Γ : Gam}, Γ[0]? = some (.fz (.adr p.1)) →
      Ed K (tOp rMulA (tLst (tCons (tC (.str "bare")) tNil)) (tCB rIntA (tCons (tNotV (tCB (rIsE K a_NoText p.1) (tCons (tVar 0) (tCons (tC (.ty "ValueError")) tNil)))) tNil))) Γ (.lst []) := fun {Γ} h =>
    ed_is (ed_op (ed_lst (ea_cons (ed_str _) ea_nil)) (ed_cb (ea_cons (ed_notV (ed_cb (ea_cons (ed_fz 0 h) (ea_cons (ed_ty _) ea_nil)) (rc_isPT T.iv_NoText))) ea_nil) rc_intB) (r2_mulL (by decide) (by decide))) rfl
  refine sd_seq (sd_set 1 (ed_op (item rfl T.is_NoText_Nought) (item rfl T.is_NoText_NoText) (r2_addL (by decide)))) ?_
  refine sd_seq (sd_set 1 (ed_op (ed_op (ed_fz 1 rfl) (item rfl T.is_NoText_NoRow) (r2_addL (by decide))) (item rfl T.is_NoText_NoMachine) (r2_addL (by decide)))) ?_
  refine sd_seq (sd_set 1 (ed_op (ed_op (ed_fz 1 rfl) (item rfl T.is_NoText_NoWord) (r2_addL (by decide))) (item rfl T.is_NoText_OtherSigns) (r2_addL (by decide)))) ?_
  refine sd_seq (sd_set 1 (ed_op (ed_op (ed_fz 1 rfl) (item rfl T.is_NoText_TooMany) (r2_addL (by decide))) (bare rfl) (r2_addL (by decide)))) ?_
  exact sd_ret (ed_tup (ea_cons (ed_str _) (ea_cons (ed_join (ys := ["text"]) (ed_str _) (ed_fz 1 rfl) (by decide)) ea_nil)))

/-! ### the mathematics of shares -/
theorem log2_mono {n m : Nat} (h : n ≤ m) : n.log2 ≤ m.log2 := by
  by_cases h0 : n = 0
  · subst h0; simp
  · have : n < 2 ^ (m.log2 + 1) := Nat.lt_of_le_of_lt h ((Nat.log2_lt (by omega)).mp (Nat.lt_succ_self _))
    have := (Nat.log2_lt h0).mpr this
    omega
theorem cmn_natAbs (t b : Int) : (cmn t b).natAbs = Nat.gcd t.natAbs b.natAbs := by unfold cmn; split <;> omega
theorem cmn_dvd (t b : Int) : cmn t b ∣ t ∧ cmn t b ∣ b := by
  rw [← Int.natAbs_dvd_natAbs, ← Int.natAbs_dvd_natAbs, cmn_natAbs]
  exact ⟨Nat.gcd_dvd_left _ _, Nat.gcd_dvd_right _ _⟩
theorem mkS_mul {t b : Int} (hb : b ≠ 0) : t = cmn t b * (mkS t b).1 ∧ b = cmn t b * (mkS t b).2 := by
  obtain ⟨h1, h2⟩ := cmn_dvd t b
  unfold mkS
  constructor
  · show t = cmn t b * t.fdiv (cmn t b)
    rw [Int.fdiv_eq_ediv_of_dvd h1, Int.mul_ediv_cancel' h1]
  · show b = cmn t b * b.fdiv (cmn t b)
    rw [Int.fdiv_eq_ediv_of_dvd h2, Int.mul_ediv_cancel' h2]
theorem cmn_sign {t b : Int} (hb : b ≠ 0) : 0 < cmn t b * b := by
  have hg : 0 < Nat.gcd t.natAbs b.natAbs := Nat.gcd_pos_of_pos_right _ (by omega)
  unfold cmn
  split
  · exact Int.mul_pos_of_neg_of_neg (by omega) (by omega)
  · exact Int.mul_pos (by omega) (by omega)
theorem mkS_pos {t b : Int} (hb : b ≠ 0) : 0 < (mkS t b).2 := by
  have h1 := (mkS_mul (t := t) hb).2
  have h2 := cmn_sign (t := t) hb
  have h3 : 0 < cmn t b * cmn t b * (mkS t b).2 := by
    rw [Int.mul_assoc, ← h1]; exact h2
  have h4 : 0 < cmn t b * cmn t b := by
    have := cmn_ne (t := t) hb
    rcases Int.lt_or_gt_of_ne this with h | h
    · exact Int.mul_pos_of_neg_of_neg h h
    · exact Int.mul_pos h h
  rcases Int.lt_trichotomy (mkS t b).2 0 with h | h | h
  · have := Int.mul_neg_of_pos_of_neg h4 h; omega
  · rw [h, Int.mul_zero] at h3; omega
  · exact h
theorem mkS_cop {t b : Int} (hb : b ≠ 0) : Nat.gcd (mkS t b).1.natAbs (mkS t b).2.natAbs = 1 := by
  obtain ⟨h1, h2⟩ := mkS_mul (t := t) hb
  have hg : 0 < Nat.gcd t.natAbs b.natAbs := Nat.gcd_pos_of_pos_right _ (by omega)
  have e1 : t.natAbs = Nat.gcd t.natAbs b.natAbs * (mkS t b).1.natAbs := by
    have := congrArg Int.natAbs h1
    rw [Int.natAbs_mul, cmn_natAbs] at this
    exact this
  have e2 : b.natAbs = Nat.gcd t.natAbs b.natAbs * (mkS t b).2.natAbs := by
    have := congrArg Int.natAbs h2
    rw [Int.natAbs_mul, cmn_natAbs] at this
    exact this
  have e3 : Nat.gcd t.natAbs b.natAbs = Nat.gcd t.natAbs b.natAbs * Nat.gcd (mkS t b).1.natAbs (mkS t b).2.natAbs := by
    rw [← Nat.gcd_mul_left, ← e1, ← e2]
  have := Nat.eq_of_mul_eq_mul_left hg (show Nat.gcd t.natAbs b.natAbs * 1 = Nat.gcd t.natAbs b.natAbs * Nat.gcd (mkS t b).1.natAbs (mkS t b).2.natAbs by rw [Nat.mul_one]; exact e3)
  exact this.symm
theorem mkS_cross {t b : Int} (hb : b ≠ 0) : (mkS t b).1 * b = t * (mkS t b).2 := by
  obtain ⟨h1, h2⟩ := mkS_mul (t := t) hb
  have e : (mkS t b).1 * b = (mkS t b).1 * (cmn t b * (mkS t b).2) := congrArg _ h2
  have e2 : t * (mkS t b).2 = cmn t b * (mkS t b).1 * (mkS t b).2 := congrArg (· * (mkS t b).2) h1
  rw [e, e2, ← Int.mul_assoc, Int.mul_comm (mkS t b).1]
theorem mkS_good {t b : Int} (hb : b ≠ 0) : isSh (sh (mkS t b)) = true := by
  have h1 := mkS_pos (t := t) hb
  have h2 := mkS_cop (t := t) hb
  have e : (mkS t b).2.toNat = (mkS t b).2.natAbs := by omega
  show (decide (0 < (mkS t b).2) && decide (Nat.gcd (mkS t b).1.natAbs (mkS t b).2.toNat = 1)) = true
  rw [e, decide_eq_true h1, decide_eq_true h2]; rfl
/-- smaller than at first -/
theorem mkS_le {t b : Int} (hb : b ≠ 0) : (mkS t b).1.natAbs ≤ t.natAbs ∧ (mkS t b).2.natAbs ≤ b.natAbs := by
  obtain ⟨h1, h2⟩ := mkS_mul (t := t) hb
  have hc := cmn_ne (t := t) hb
  have e1 := congrArg Int.natAbs h1
  have e2 := congrArg Int.natAbs h2
  rw [Int.natAbs_mul] at e1 e2
  have : 1 ≤ (cmn t b).natAbs := by omega
  constructor
  · rw [e1]; exact Nat.le_mul_of_pos_left _ this
  · rw [e2]; exact Nat.le_mul_of_pos_left _ this

/-! ### the script's cells -/
def cellAt (ns : List Int) (k : Nat) : Int := ns.getD k 0
theorem atI_nat' {α : Type} {xs : List α} {k : Nat} (h : k < xs.length) : atI xs (k : Int) = some xs[k] := by
  unfold atI ixN
  rw [if_pos (by omega), if_pos (by omega)]
  simp [h]
theorem atI_getD {α : Type} {xs : List α} {j : Int} (h0 : 0 ≤ j) (h : j < xs.length) (d : α) : atI xs j = some (xs.getD j.toNat d) := by
  obtain ⟨k, rfl⟩ : ∃ k : Nat, j = k := ⟨j.toNat, by omega⟩
  have hk : k < xs.length := by omega
  rw [atI_nat' hk]
  simp [List.getD, hk]
def Sca : List D → D → Prop := fun ds d => ∃ (ns : List Int) (k : Nat), ds = [.scr ns, .int k] ∧ d = .int (cellAt ns k)
theorem ok_cell_at (T : Tx K mg a_WeighError a_Nought a_NoText a_NoRow a_NoMachine a_NoWord a_OtherSigns a_TooMany) : Cl P w K mg base CX0 1 "_law_cell_at" (spR K Sca) := by
  refine clR T.d__law_cell_at sc_law_cell_at (fun ds d h => by obtain ⟨a, b, rfl, _⟩ := h; rfl) fun f cdv A outer s H E hr => ?_
  refine ⟨_, (pss_cons (ps_if (pt_cmpR opLt (pv 1) (pe_callB callLen (by rfl) T.n_len bt_len (pa_cons (pv 0) pa_nil)) (nomark _))
  (pss_one (ps_ret (pe_ix ix_seq (pv 0) (pv 1) (fun _ _ => rfl))))
  pss_nil)
  (pss_one (ps_ret pe_int))), fun ds d h => ?_⟩
  obtain ⟨ns, k, rfl, rfl⟩ := h
  have test : Et K (tTest (tOp rLtA (tVar 1) (tCB (rLenA K) (tCons (tVar 0) tNil)))) [.fz (.scr ns), .fz (.int k)] (decide ((k : Int) < ns.length)) := et_test (ed_op (ed_fz 1 rfl) (ed_cb (ea_cons (ed_fz 0 rfl) ea_nil) rc_lenP) r2_ltI)
  by_cases hk : k < ns.length
  · have e : cellAt ns k = ns[k] := by simp [cellAt, List.getD, hk]
    rw [e]
    exact sd_stop (sd_ifT (et_is test (decide_eq_true (by omega))) (sd_ret (ed_op (ed_fz 0 rfl) (ed_fz 1 rfl) (r2_ixP (atI_nat' hk))))) rfl
  · have e : cellAt ns k = 0 := by simp [cellAt, List.getD, List.getElem?_eq_none (show ns.length ≤ k by omega)]
    rw [e]
    exact sd_seq (sd_ifF (et_is test (decide_eq_false (by omega))) sd_next) (sd_ret (ed_int 0))
/-- a cell is not too great -/
def Sm (c : Int) : Prop := c.natAbs.log2 ≤ 1048576
theorem sm_bits {c : Int} (h : Builtin.Int.intBits c ≤ 1048576) : Sm c := by
  unfold Sm
  unfold Builtin.Int.intBits at h
  split at h
  · rename_i h0
    have : c.natAbs = 0 := by simpa using h0
    rw [this]; simp
  · omega
theorem sm_at {ns : List Int} (h : ∀ z ∈ ns, Builtin.Int.intBits z ≤ 1048576) (k : Nat) : Sm (cellAt ns k) := by
  by_cases hk : k < ns.length
  · have e : cellAt ns k = ns[k] := by simp [cellAt, List.getD, hk]
    rw [e]; exact sm_bits (h _ (List.getElem_mem hk))
  · have e : cellAt ns k = 0 := by simp [cellAt, List.getD, List.getElem?_eq_none (show ns.length ≤ k by omega)]
    rw [e]; unfold Sm; simp

/-! ### numbers by cells -/
def numL : List Int := [10 ^ 60 - 1, 1 - 10 ^ 60, 2 ^ 64, 0, 1]
def num (c : Int) : Int := if c % 5 < 3 then c / 5 % 61 - 30 else if c % 5 = 3 then numL.getD (c / 5 % 5).toNat 0 else c / 5 * 48271 ^ 12 % (2 * 10 ^ 60 - 1) - (10 ^ 60 - 1)
theorem ediv_le (c : Int) {k : Int} (hk : 0 < k) : (c / k).natAbs ≤ c.natAbs := by
  by_cases h : c < 0
  · have h1 : c ≤ c / k := Int.le_ediv_of_mul_le hk (by
      have h1 : 0 ≤ (k - 1) * (-c) := Int.mul_nonneg (by omega) (by omega)
      have h2 : (k - 1) * (-c) = c - c * k := by rw [Int.mul_neg, Int.sub_mul, Int.one_mul, Int.mul_comm k c]; omega
      omega)
    have h4 : c / k < 0 := Int.ediv_neg_of_neg_of_pos h hk
    omega
  · have h1 : c / k ≤ c := Int.ediv_le_self k (by omega)
    have h2 : 0 ≤ c / k := Int.ediv_nonneg (by omega) (by omega)
    omega
theorem sm_div {c k : Int} (h : Sm c) (hk : 0 < k) : Sm (c / k) := Nat.le_trans (log2_mono (ediv_le c hk)) h
theorem num_lt (c : Int) : (num c).natAbs < 2 ^ 200 := by
  unfold num
  split
  · omega
  · split
    · have h1 : 0 ≤ c / 5 % 5 := Int.emod_nonneg _ (by decide)
      have h2 : c / 5 % 5 < 5 := Int.emod_lt_of_pos _ (by decide)
      generalize c / 5 % 5 = j at h1 h2
      have : j = 0 ∨ j = 1 ∨ j = 2 ∨ j = 3 ∨ j = 4 := by omega
      rcases this with rfl | rfl | rfl | rfl | rfl <;> decide
    · have h1 : 0 ≤ c / 5 * 48271 ^ 12 % (2 * 10 ^ 60 - 1) := Int.emod_nonneg _ (by decide)
      have h2 : c / 5 * 48271 ^ 12 % (2 * 10 ^ 60 - 1) < 2 * 10 ^ 60 - 1 := Int.emod_lt_of_pos _ (by decide)
      generalize c / 5 * 48271 ^ 12 % (2 * 10 ^ 60 - 1) = j at h1 h2
      omega
def Snu : List D → D → Prop := fun ds d => ∃ c : Int, ds = [.int c] ∧ Sm c ∧ d = .int (num c)
theorem ok_number (T : Tx K mg a_WeighError a_Nought a_NoText a_NoRow a_NoMachine a_NoWord a_OtherSigns a_TooMany) : Cl P w K mg base CX0 1 "_law_number" (spR K Snu) := by
  refine clR T.d__law_number sc_law_number (fun ds d h => by obtain ⟨a, rfl, _⟩ := h; rfl) fun f cdv A outer s H E hr => ?_
  refine ⟨_, (pss_cons (ps_if (pt_cmpR opLt (pe_op op_mod (pv 0) pe_int) pe_int (nomark _))
  (pss_one (ps_ret (pe_op op_sub (pe_op op_mod (pe_op opFd (pv 0) pe_int) pe_int) pe_int)))
  pss_nil)
  (pss_cons (ps_if (pt_cmpR (op_eqD hr.units) (pe_op op_mod (pv 0) pe_int) pe_int (nomark _))
  (pss_one (ps_ret (pe_ix ix_seq (pe_lst (pa_cons (pe_op op_sub (pe_op op_pow pe_int pe_int) pe_int) (pa_cons (pe_op op_sub pe_int (pe_op op_pow pe_int pe_int)) (pa_cons (pe_op op_pow pe_int pe_int) (pa_cons pe_int (pa_cons pe_int pa_nil)))))) (pe_op op_mod (pe_op opFd (pv 0) pe_int) pe_int) (fun _ _ => rfl))))
  pss_nil)
  (pss_one (ps_ret (pe_op op_sub (pe_op op_mod (pe_op opMul (pe_op opFd (pv 0) pe_int) (pe_op op_pow pe_int pe_int)) (pe_op op_sub (pe_op opMul pe_int (pe_op op_pow pe_int pe_int)) pe_int)) (pe_op op_sub (pe_op op_pow pe_int pe_int) pe_int)))))), fun ds d h => ?_⟩
  obtain ⟨c, rfl, hc, rfl⟩ := h
  have m5 : Ed K (tOp (rI (fun _ j => 0 < j) fun i j => .int (i % j)) (tVar 0) (tC (.int 5))) [.fz (.int c)] (.int (c % 5)) := ed_op (ed_fz 0 rfl) (ed_int 5) (r2_mod (by decide))
  have d5 : Ed K (tOp rFdA (tVar 0) (tC (.int 5))) [.fz (.int c)] (.int (c / 5)) := ed_op (ed_fz 0 rfl) (ed_int 5) (r2_fdP (by decide))
  have p10 : ∀ {Γ : Gam}, Ed K (tOp (rI CPow fun i j => .int (i ^ j.toNat)) (tC (.int 10)) (tC (.int 60))) Γ (.int (10 ^ 60)) := fun {Γ} => ed_op (ed_int 10) (ed_int 60) (r2_pow ⟨by decide, by decide, by decide⟩)
  by_cases h1 : c % 5 < 3
  · rw [show num c = c / 5 % 61 - 30 from if_pos h1]
    exact sd_stop (sd_ifT (et_is (et_test (ed_op m5 (ed_int 3) r2_ltI)) (decide_eq_true h1)) (sd_ret (ed_op (ed_op d5 (ed_int 61) (r2_mod (by decide))) (ed_int 30) r2_subI))) rfl
  · refine sd_seq (Γ1 := [.fz (.int c)]) (sd_ifF (et_is (et_test (ed_op m5 (ed_int 3) r2_ltI)) (decide_eq_false h1)) sd_next) ?_
    by_cases h2 : c % 5 = 3
    · rw [show num c = numL.getD (c / 5 % 5).toNat 0 from (if_neg h1).trans (if_pos h2)]
      have h3 : 0 ≤ c / 5 % 5 := Int.emod_nonneg _ (by decide)
      have h4 : c / 5 % 5 < 5 := Int.emod_lt_of_pos _ (by decide)
      refine sd_stop (sd_ifT (et_is (et_test (ed_op m5 (ed_int 3) r2_eqI)) (decide_eq_true h2)) (sd_ret (ed_op (ed_lst (ea_cons (ed_op p10 (ed_int 1) r2_subI) (ea_cons (ed_op (ed_int 1) p10 r2_subI) (ea_cons (ed_op (ed_int 2) (ed_int 64) (r2_pow ⟨by decide, by decide, by decide⟩)) (ea_cons (ed_int 0) (ea_cons (ed_int 1) ea_nil)))))) (ed_op d5 (ed_int 5) (r2_mod (by decide))) (r2_ixL ?_)))) rfl
      generalize c / 5 % 5 = j at h3 h4
      have : j = 0 ∨ j = 1 ∨ j = 2 ∨ j = 3 ∨ j = 4 := by omega
      rcases this with rfl | rfl | rfl | rfl | rfl <;> rfl
    · rw [show num c = c / 5 * 48271 ^ 12 % (2 * 10 ^ 60 - 1) - (10 ^ 60 - 1) from (if_neg h1).trans (if_neg h2)]
      refine sd_seq (Γ1 := [.fz (.int c)]) (sd_ifF (et_is (et_test (ed_op m5 (ed_int 3) r2_eqI)) (decide_eq_false h2)) sd_next) ?_
      have big : CBig (c / 5) (48271 ^ 12) := by
        have z := sm_div hc (show (0 : Int) < 5 by decide)
        unfold Sm at z
        have z2 : ((48271 : Int) ^ 12).natAbs.log2 < 1000 := by decide +kernel
        unfold CBig
        omega
      exact sd_ret (ed_op (ed_op (ed_op d5 (ed_op (ed_int 48271) (ed_int 12) (r2_pow ⟨by decide, by decide, by decide⟩)) (r2_mulI big)) (ed_op (ed_op (ed_int 2) p10 (r2_mulI (by unfold CBig; decide +kernel))) (ed_int 1) r2_subI) (r2_mod (by decide))) (ed_op p10 (ed_int 1) r2_subI) r2_subI)

theorem ok__law_whole (T : Tx K mg a_WeighError a_Nought a_NoText a_NoRow a_NoMachine a_NoWord a_OtherSigns a_TooMany) : Cl P w K mg base CX0 1 "_law_whole" (spR K Swh) := by
  refine clR T.d__law_whole sc_law_whole (fun ds d h => by obtain ⟨a, b, rfl, _⟩ := h; rfl) fun f cdv A outer s H E hr => ?_
  refine ⟨_, (pss_one (ps_ret (pe_and (pe_callB call_isi (by rfl) T.n_isinstance bt_isinstance (pa_cons (pv 0) (pa_cons (pe_bltn (v := .ty "int") (by rfl) T.n_int bt_int rfl) pa_nil))) (pe_one (pe_not (pe_callB call_isi (by rfl) T.n_isinstance bt_isinstance (pa_cons (pv 0) (pa_cons (pe_bltn (v := .ty "bool") (by rfl) T.n_bool bt_bool rfl) pa_nil)))))))), fun ds d h => ?_⟩
  obtain ⟨x, U, rfl, hx, rfl⟩ := h
  obtain ⟨h1, h2, h3, h4⟩ := isi_kind x hx
  refine sd_ret (ed_is (ed_andV (ed_cb (ea_cons (ed_fz 0 rfl) (ea_cons (ed_ty _) ea_nil)) (rc_isi hx h1)) fun _ => ed_notV (ed_cb (ea_cons (ed_fz 0 rfl) (ea_cons (ed_ty _) ea_nil)) (rc_isi hx h2))) ?_)
  rw [h4]
  by_cases e : U = "int"
  · subst e; rfl
  · by_cases e2 : U = "bool"
    · subst e2; rfl
    · rw [beq_eq_false_iff_ne.mpr e, beq_eq_false_iff_ne.mpr e2]; rfl

theorem ok_common (T : Tx K mg a_WeighError a_Nought a_NoText a_NoRow a_NoMachine a_NoWord a_OtherSigns a_TooMany) : Cl P w K mg base CX0 1 "_law_common" (spR K Sdiv) := by
  refine clR T.d__law_common sc_law_common (fun ds d h => by obtain ⟨a, b, rfl, _⟩ := h; rfl) fun f cdv A outer s H E hr => ?_
  refine ⟨_, (pss_cons (ps_while PassesOwn.never (pt_cmpR op_gt (pv 1) pe_int (nomark _))
  (pss_one (ps_par (i := 0) (j := 1) rfl sc_law_common.nd rfl rfl (by decide) rfl rfl (pa_cons (pv 1) (pa_cons (pe_op op_mod (pv 0) (pv 1)) pa_nil)) rfl)))
  (pss_one (ps_ret (pv 0)))), fun ds d h => ?_⟩
  obtain ⟨a, b, rfl, rfl⟩ := h
  refine sd_seq (Γ1 := [.fz (.int (Nat.gcd a b : Nat)), .fz (.int 0)]) (sd_whileE ?_) (sd_ret (ed_fz 0 rfl))
  show ∃ n, LoopW K E0 _ _ n [.fz (.int a), .fz (.int b)] _
  induction b using Nat.strongRecOn generalizing a with
  | _ b ih =>
    have test : Et K (tTest (tOp (rI0 fun i j => .bl (decide (j < i))) (tVar 1) (tC (.int 0)))) [.fz (.int a), .fz (.int b)] (decide ((0 : Int) < b)) := et_test (ed_op (ed_fz 1 rfl) (ed_int 0) r2_gt)
    by_cases hb : b = 0
    · subst hb
      rw [Nat.gcd_zero_right]
      exact ⟨0, .done test⟩
    · obtain ⟨n, hn⟩ := ih (a % b) (Nat.mod_lt _ (Nat.pos_of_ne_zero hb)) b
      rw [show Nat.gcd b (a % b) = Nat.gcd a b by rw [Nat.gcd_comm b, ← Nat.gcd_rec, Nat.gcd_comm]] at hn
      refine ⟨n + 1, .step (et_is test (decide_eq_true (by omega))) (Sd.toLp ?_) hn⟩
      exact sd_par (ea_cons (ed_fz 1 rfl) (ea_cons (ed_op (ed_fz 0 rfl) (ed_fz 1 rfl) (r2_mod (by omega))) ea_nil))

/-- the law's own share -/
def Sls : List D → D → Prop := fun ds d => ∃ t b : Int, ds = [.int t, .int b] ∧ 0 < b ∧ b.natAbs.log2 < 9000 ∧ d = sh (mkS t b)
theorem mkS_posB {t b : Int} (hb : 0 < b) : mkS t b = (t.fdiv (Nat.gcd t.natAbs b.toNat : Nat), b.fdiv (Nat.gcd t.natAbs b.toNat : Nat)) := by
  have e : cmn t b = (Nat.gcd t.natAbs b.toNat : Nat) := by
    unfold cmn
    rw [if_neg (by omega), show b.natAbs = b.toNat by omega]
  unfold mkS
  rw [e]
theorem ok_lshare (T : Tx K mg a_WeighError a_Nought a_NoText a_NoRow a_NoMachine a_NoWord a_OtherSigns a_TooMany) (c__law_common : Cl P w K mg base CX0 1 "_law_common" (spR K Sdiv)) : Cl P w K mg base CX0 2 "_law_share" (spR K Sls) := by
  refine clR T.d__law_share sc_law_share (fun ds d h => by obtain ⟨a, b, rfl, _⟩ := h; rfl) fun f cdv A outer s H E hr => ?_
  refine ⟨_, (pss_cons (ps_set (i := 2) sc_law_share.nd rfl (by first | exact Or.inl rfl | exact Or.inr rfl) (pcl c__law_common hr (by decide) rfl (pa_cons (pe_callB call_abs (by rfl) T.n_abs bt_abs (pa_cons (pv 0) pa_nil)) (pa_cons (pv 1) pa_nil))))
  (pss_one (ps_ret (pe_tup (pa_cons (pe_op opFd (pv 0) (pv 2)) (pa_cons (pe_op opFd (pv 1) (pv 2)) pa_nil)))))), fun ds d h => ?_⟩
  obtain ⟨t, b, rfl, hb, hl, rfl⟩ := h
  have fd : ∀ x : Int, CFd x (Nat.gcd t.natAbs b.toNat : Nat) := fun x => by
    have z := cmn_fd (t := t) (x := x) (show b ≠ 0 by omega) hl
    have e : cmn t b = (Nat.gcd t.natAbs b.toNat : Nat) := by
      unfold cmn
      rw [if_neg (by omega), show b.natAbs = b.toNat by omega]
    rw [e] at z
    exact z
  rw [mkS_posB hb]
  refine sd_seq (sd_set 2 (ed_call (ea_cons (ed_cb (ea_cons (ed_fz 0 rfl) ea_nil) rc_abs) (ea_cons (ed_fz 1 rfl) ea_nil)) ⟨t.natAbs, b.toNat, by rw [Int.toNat_of_nonneg (by omega)], rfl⟩)) ?_
  exact sd_ret (ed_tup (ea_cons (ed_op (ed_fz 0 rfl) (ed_fz 2 rfl) (r2_fd (fd _))) (ea_cons (ed_op (ed_fz 1 rfl) (ed_fz 2 rfl) (r2_fd (fd _))) ea_nil)))

theorem ix0 {Γ : Gam} {p : Int × Int} {te : TE} (h : Ed K te Γ (sh p)) : Ed K (tOp (rIx K) te (tC (.int 0))) Γ (.int p.1) := ed_op h (ed_int 0) (r2_ixT rfl)
theorem ix1 {Γ : Gam} {p : Int × Int} {te : TE} (h : Ed K te Γ (sh p)) : Ed K (tOp (rIx K) te (tC (.int 1))) Γ (.int p.2) := ed_op h (ed_int 1) (r2_ixT rfl)

theorem eqD_sh (p q : Int × Int) : eqD (sh p) (sh q) = decide (p = q) := by
  have e : eqD (sh p) (sh q) = (p.1 == q.1 && (p.2 == q.2 && true)) := by
    simp only [eqD, D.py, D.pyA, PyData.eqv, PyData.eqvAll]
  rw [e, Bool.eq_iff_iff]
  simp [Prod.ext_iff]
theorem pl_sh (p : Int × Int) : Pl 1 (sh p) := .tup fun d hd => by
  rcases List.mem_cons.mp hd with e | e
  · subst e; exact .int _
  · rcases List.mem_cons.mp e with e | e
    · subst e; exact .int _
    · cases e
def Sli : List D → D → Prop := fun ds d => ∃ p q : Int × Int, ds = [sh p, sh q] ∧ d = .bl (decide (p = q))
theorem ok_lis (T : Tx K mg a_WeighError a_Nought a_NoText a_NoRow a_NoMachine a_NoWord a_OtherSigns a_TooMany) (c__law_whole : Cl P w K mg base CX0 1 "_law_whole" (spR K Swh)) : Cl P w K mg base CX0 2 "_law_is" (spR K Sli) := by
  refine clR T.d__law_is sc_law_is (fun ds d h => by obtain ⟨a, b, rfl, _⟩ := h; rfl) fun f cdv A outer s H E hr => ?_
  refine ⟨_, (pss_cons (ps_if (PW.pt (pw_or (pt_not (pt_val (pe_callB call_isi (by rfl) T.n_isinstance bt_isinstance (pa_cons (pv 0) (pa_cons (pe_bltn (v := .ty "tuple") (by rfl) T.n_tuple bt_tuple rfl) pa_nil))))) (pw_or (pt_cmpR (op_neD hr.units) (pe_callB callLen (by rfl) T.n_len bt_len (pa_cons (pv 0) pa_nil)) pe_int (nomark _)) (pw_or (pt_not (pt_val (pcl c__law_whole hr (by decide) rfl (pa_cons (pe_ix ix_seq (pv 0) pe_int (fun _ _ => rfl)) pa_nil)))) (pw_or1 (pt_not (pt_val (pcl c__law_whole hr (by decide) rfl (pa_cons (pe_ix ix_seq (pv 0) pe_int (fun _ _ => rfl)) pa_nil)))))))))
  (pss_one (ps_ret pe_bl))
  pss_nil)
  (pss_one (ps_ret (pe_cmpR (op_eqD hr.units) (pv 0) (pv 1) (nomark _))))), fun ds d h => ?_⟩
  obtain ⟨p, q, rfl, rfl⟩ := h
  refine sd_seq (sd_ifF (et_orF (et_nF (et_B (ed_cb (ea_cons (ed_fz 0 rfl) (ea_cons (ed_ty _) ea_nil)) (rc_isi rfl (by decide +kernel))))) (et_orF (et_is (et_test (ed_op (ed_cb (ea_cons (ed_fz 0 rfl) ea_nil) rc_lenT) (ed_int 2) r2_neI)) rfl)
    (et_orF (et_nF (et_B (ed_call (ea_cons (ix0 (ed_fz 0 rfl)) ea_nil) ⟨_, _, rfl, rfl, rfl⟩))) (et_nF (et_B (ed_call (ea_cons (ix1 (ed_fz 0 rfl)) ea_nil) ⟨_, _, rfl, rfl, rfl⟩)))))) sd_next) ?_
  exact sd_ret (ed_is (ed_op (ed_fz 0 rfl) (ed_fz 1 rfl) (r2_eq (pl_sh p) (pl_sh q))) (by rw [eqD_sh]))

/-! ### words -/
def word (l : List Nat) : Str := ⟨l.toArray⟩
theorem word_list (l : List Nat) : (word l).cps.toList = l := by simp [word]
theorem word_len (l : List Nat) : (word l).length = l.length := by show l.toArray.size = _; simp
theorem word_add (l m : List Nat) : word l ++ word m = word (l ++ m) := by
  show (⟨l.toArray ++ m.toArray⟩ : Str) = ⟨(l ++ m).toArray⟩
  simp
theorem sgn_word (l : List Nat) : sgn (word l) = l.map fun c => D.str (word [c]) := by
  unfold sgn
  rw [word_list]
  rfl
theorem join_ones0 : ∀ l : List Nat, Str.join "" (l.map fun c => word [c]) = word l
  | [] => rfl
  | [c] => rfl
  | c :: d :: l => by
    have ih := join_ones0 (d :: l)
    show word [c] ++ word [] ++ Str.join "" ((d :: l).map fun c => word [c]) = _
    rw [ih, word_add, word_add]
    rfl
theorem join_ones (l : List Nat) : Txt.join "" (l.map fun c => word [c]) = word l := (PySem.StrLaws.glued_eq_join _ _).trans (join_ones0 l)
def alph : Str := "abcdefghijklmnopqrstuvwxyz"
/-! ### numbers written -/
def figs (l : List Nat) : List Nat := if l.take 1 = [45] then l.drop 1 else l
def figL : List Nat := List.range' 48 10
def figT : Str := "0123456789"
theorem figT_list : figT.cps.toList = figL := by decide +kernel
theorem mem_fig {c : Nat} : c ∈ figL ↔ 48 ≤ c ∧ c ≤ 57 := by
  unfold figL
  rw [List.mem_range'_1]
  omega
structure NumOk (l : List Nat) : Prop where
  lo : 1 ≤ (figs l).length
  hi : (figs l).length ≤ 60
  dg : ∀ c ∈ figs l, c ∈ figL
  hd : ¬ ((figs l).head? = some 48 ∧ l ≠ [48])
instance (l : List Nat) : Decidable (NumOk l) := if h : 1 ≤ (figs l).length ∧ (figs l).length ≤ 60 ∧ (∀ c ∈ figs l, c ∈ figL) ∧ ¬ ((figs l).head? = some 48 ∧ l ≠ [48]) then .isTrue ⟨h.1, h.2.1, h.2.2.1, h.2.2.2⟩ else .isFalse fun z => h ⟨z.lo, z.hi, z.dg, z.hd⟩
def numV (l : List Nat) : Int := if l.take 1 = [45] then -((NumText.digitsVal (figs l) : Nat) : Int) else ((NumText.digitsVal (figs l) : Nat) : Int)
theorem NumOk.dig {l : List Nat} (h : NumOk l) : NumText.AllDigits (figs l) := fun c hc => mem_fig.mp (h.dg c hc)
theorem take_one {l : List Nat} (h : l.take 1 = [45]) : l = 45 :: figs l := by
  unfold figs
  rw [if_pos h]
  match l, h with
  | c :: r, h => simp at h; simp [h]
theorem figs_pos {l : List Nat} (h : ¬ l.take 1 = [45]) : figs l = l := if_neg h
theorem NumOk.len {l : List Nat} (h : NumOk l) : l.length ≤ 61 := by
  have := h.hi
  by_cases e : l.take 1 = [45]
  · rw [take_one e, List.length_cons]; omega
  · rw [figs_pos e] at this; omega
theorem NumOk.ne {l : List Nat} (h : NumOk l) : figs l ≠ [] := fun e => by have := h.lo; rw [e] at this; exact absurd this (by decide)
theorem num_int {l : List Nat} (h : NumOk l) : intText? (word l) = some (numV l) := by
  have hl := h.len
  unfold numV
  by_cases e : l.take 1 = [45]
  · rw [if_pos e]
    exact PySem.intText_neg (x := word l) (cs := figs l) (by rw [word_list]; exact take_one e) h.dig h.ne (by rw [word_len]; omega)
  · rw [if_neg e]
    have z := PySem.intText_digits (x := word l) (by rw [word_list, ← figs_pos e]; exact h.dig) (by rw [word_list, ← figs_pos e]; exact h.ne) (by rw [word_len]; omega)
    rw [word_list] at z
    rw [z, figs_pos e]
theorem NumOk.first {l : List Nat} (h : NumOk l) : (figs l).length - 1 = 0 ∨ ∃ c r, figs l = c :: r ∧ 49 ≤ c := by
  have hh := h.hd
  match e : figs l with
  | [] => exact absurd e h.ne
  | c :: r =>
    have hc := h.dig c (by rw [e]; exact List.mem_cons_self)
    by_cases h48 : c = 48
    · subst h48
      left
      rw [e] at hh
      have hl : l = [48] := Classical.byContradiction fun z => hh ⟨rfl, z⟩
      subst hl
      have : figs [48] = [48] := by decide
      rw [this] at e
      cases e
      rfl
    · exact .inr ⟨c, r, rfl, by omega⟩
theorem char_back {c : Nat} (h : 48 ≤ c ∧ c ≤ 57) : (Char.ofNat c).toNat = c := by
  have : c = 48 ∨ c = 49 ∨ c = 50 ∨ c = 51 ∨ c = 52 ∨ c = 53 ∨ c = 54 ∨ c = 55 ∨ c = 56 ∨ c = 57 := by omega
  rcases this with rfl | rfl | rfl | rfl | rfl | rfl | rfl | rfl | rfl | rfl <;> decide
theorem digits_back {l : List Nat} (h : NumOk l) : TL.numL (NumText.digitsVal (figs l)) = figs l := by
  have h1 := h.lo
  unfold TL.numL
  rw [NumText.toDigits_digitsVal ((figs l).length - 1) (figs l) (by omega) h.dig h.first, List.map_map]
  conv => rhs; rw [← List.map_id (figs l)]
  exact List.map_congr_left fun c hc => char_back (h.dig c hc)
def numT (i : Int) : List Nat := if i < 0 then 45 :: TL.numL i.natAbs else TL.numL i.natAbs
theorem str_int (i : Int) : Str.ofString (toString i) = word (numT i) := by
  unfold numT
  cases i with
  | ofNat n =>
    rw [if_neg (show ¬ Int.ofNat n < 0 from Int.not_lt.mpr (Int.natCast_nonneg n))]
    exact SX.num_S n
  | negSucc n =>
    rw [if_pos (Int.negSucc_lt_zero n)]
    show Str.ofString ("-" ++ Nat.repr (n + 1)) = word ([45] ++ TL.numL (n + 1))
    rw [PySem.Str.ofString_eq_toList, String.toList_append, Nat.toList_repr, List.map_append]
    rfl
theorem num_txt {l : List Nat} (h : NumOk l) : numT (numV l) = l := by
  unfold numT numV
  have b := digits_back h
  by_cases e : l.take 1 = [45]
  · have t := take_one e
    have pos : 0 < NumText.digitsVal (figs l) := by
      rcases h.first with z | ⟨c, r, e1, h1⟩
      · match e2 : figs l, z with
        | [], _ => exact absurd e2 h.ne
        | [c], _ =>
          have hc := h.dig c (by rw [e2]; exact List.mem_cons_self)
          by_cases h48 : c = 48
          · subst h48
            exact absurd ⟨by rw [e2]; rfl, by rw [t, e2]; decide⟩ h.hd
          · exact NumText.digitsVal_pos (by omega)
      · rw [e1]; exact NumText.digitsVal_pos h1
    rw [if_pos e, if_pos (by omega), Int.natAbs_neg, Int.natAbs_natCast, b]
    exact t.symm
  · rw [if_neg e, if_neg (by omega), Int.natAbs_natCast, b, figs_pos e]
theorem numL_first (n : Nat) : (TL.numL n).head? = some 48 → n = 0 := by
  induction n using Nat.strongRecOn with
  | _ n ih =>
    intro h
    by_cases hn : n < 10
    · rw [TL.numL_lt hn] at h
      simp at h
      exact h
    · rw [TL.numL_step (by omega)] at h
      have ne := TL.numL_ne (n / 10)
      rw [List.head?_append, Option.or_of_isSome (by rw [List.isSome_head?]; exact ne)] at h
      have := ih (n / 10) (by omega) h
      omega
theorem numT_ok {i : Int} (h : i.natAbs < 10 ^ 60) : NumOk (numT i) ∧ numV (numT i) = i := by
  have dg := TL.numL_digits i.natAbs
  have ln := TL.numL_len (n := i.natAbs) (k := 60) (by decide) h
  have ne := TL.numL_ne i.natAbs
  have lp := List.length_pos_iff.mpr ne
  have vl := TL.numL_val i.natAbs
  by_cases hi : i < 0
  · have e : numT i = 45 :: TL.numL i.natAbs := if_pos hi
    have f : figs (numT i) = TL.numL i.natAbs := by rw [e]; rfl
    refine ⟨⟨by rw [f]; exact lp, by rw [f]; exact ln, by rw [f]; exact fun c hc => mem_fig.mpr (dg c hc), fun z => ?_⟩, ?_⟩
    · rw [f] at z
      have := numL_first _ z.1
      omega
    · unfold numV
      rw [f, vl, if_pos (by rw [e]; rfl)]
      omega
  · have e : numT i = TL.numL i.natAbs := if_neg hi
    have nt : ¬ (numT i).take 1 = [45] := fun z => by
      have := take_one z
      rw [e] at this
      have := dg 45 (by rw [this]; exact List.mem_cons_self)
      omega
    have f : figs (numT i) = TL.numL i.natAbs := by rw [figs_pos nt, e]
    refine ⟨⟨by rw [f]; exact lp, by rw [f]; exact ln, by rw [f]; exact fun c hc => mem_fig.mpr (dg c hc), fun z => ?_⟩, ?_⟩
    · rw [f] at z
      have h0 := numL_first _ z.1
      refine z.2 ?_
      rw [e, h0]
      rfl
    · unfold numV
      rw [f, vl, if_neg nt]
      omega
theorem numT_free {i : Int} : 47 ∉ numT i := by
  unfold numT
  split
  · intro h
    rcases List.mem_cons.mp h with h | h
    · exact absurd h (by decide)
    · exact TL.numL_free (.inl (by decide)) h
  · exact TL.numL_free (.inl (by decide))
/-! ### parts -/
def spl (l : List Nat) : List (List Nat) := TL.spl [47] 0 [] l
theorem split_w (l : List Nat) : Txt.split (word l) "/" = (spl l).map word := SX.split_S (a := l) (b := [47]) (by decide) (by decide)
theorem spl_back (l : List Nat) : Str.join (word [47]) ((spl l).map word) = word l := by
  have h := StrLaws.join_split (word l) (word [47])
  rw [show Txt.split (word l) (word [47]) = (spl l).map word from split_w l] at h
  exact h
theorem spl_len (l : List Nat) : ∀ acc : List Nat, ((TL.spl [47] 0 acc l).length : Int) = cnt 47 l + 1 := by
  induction l with
  | nil => exact fun acc => rfl
  | cons c r ih =>
    intro acc
    rw [cnt_cons]
    by_cases hc : c = 47
    · subst hc
      rw [TL.spl_hit (by simp [TL.pre]), if_pos rfl, List.length_cons]
      have := ih []
      push_cast
      rw [show ([47] : List Nat).length - 1 = 0 from rfl, this]
      omega
    · have hp : TL.pre [47] (c :: r) = false := by simp [TL.pre, hc]
      rw [if_neg hc]
      show (((if TL.pre [47] (c :: r) = true then acc :: TL.spl [47] (([47] : List Nat).length - 1) [] r else TL.spl [47] 0 (acc ++ [c]) r).length : Nat) : Int) = _
      rw [hp, if_neg (by decide), ih]
      omega
theorem count_w (l : List Nat) : Txt.count (word l) "/" = ((spl l).length : Int) - 1 := by
  have h := spl_len l []
  have h2 := count_cnt (word l) 47
  rw [word_list] at h2
  rw [show Txt.count (word l) "/" = _ from h2]
  unfold spl
  omega
theorem spl_one {l a : List Nat} (h : spl l = [a]) : a = l := by
  have z := spl_back l
  rw [h] at z
  have := congrArg (fun x : Str => x.cps.toList) (show word a = word l from z)
  simpa only [word_list] using this
theorem spl_two {l a b : List Nat} (h : spl l = [a, b]) : l = a ++ 47 :: b := by
  have z := spl_back l
  rw [h] at z
  have z' : word a ++ word [47] ++ word b = word l := z
  rw [word_add, word_add] at z'
  have := congrArg (fun x : Str => x.cps.toList) z'
  simp only [word_list] at this
  rw [← this]
  simp
theorem spl_free1 {a : List Nat} (h : 47 ∉ a) : spl a = [a] := by
  have := SX.spl_join (c := 47) (sep := []) (parts := [a]) (by simp) (by simpa using h)
  exact this
theorem spl_free2 {a b : List Nat} (h : 47 ∉ a) (h' : 47 ∉ b) : spl (a ++ 47 :: b) = [a, b] := by
  unfold spl
  have := SX.spl_free (sep := [47]) (p := a) b (by simp) (SX.free_head h)
  rw [show a ++ 47 :: b = a ++ ([47] ++ b) by simp, this]
  exact congrArg (a :: ·) (spl_free1 h')
theorem spl_ne (l : List Nat) : spl l ≠ [] := fun e => by
  have := spl_len l []
  unfold spl at e
  rw [e] at this
  have h2 := (count_bounds (word l) (word [47])).1
  have h3 := count_cnt (word l) 47
  rw [word_list] at h3
  have h4 : Txt.count (word l) (word [47]) = cnt 47 l := h3
  rw [h4] at h2
  simp at this
  omega
/-- the share that a text writes -/
def rdQ (l : List Nat) : Option (Int × Int) :=
  match spl l with
  | [a] => if NumOk a then some (numV a, 1) else none
  | [a, b] => if NumOk a ∧ NumOk b ∧ 2 ≤ numV b ∧ Nat.gcd (numV a).natAbs (numV b).natAbs = 1 then some (numV a, numV b) else none
  | _ => none
def wrT (p : Int × Int) : List Nat := if p.2 = 1 then numT p.1 else numT p.1 ++ 47 :: numT p.2
theorem rd_wr {p : Int × Int} (h1 : p.1.natAbs < 10 ^ 60) (h2 : p.2.natAbs < 10 ^ 60) (hp : 0 < p.2) (hc : Nat.gcd p.1.natAbs p.2.natAbs = 1) : rdQ (wrT p) = some p := by
  obtain ⟨o1, v1⟩ := numT_ok h1
  obtain ⟨o2, v2⟩ := numT_ok h2
  unfold rdQ wrT
  by_cases h : p.2 = 1
  · rw [if_pos h, spl_free1 numT_free]
    show (if NumOk (numT p.1) then some (numV (numT p.1), (1 : Int)) else none) = some p
    rw [if_pos o1, v1, ← h]
  · rw [if_neg h, spl_free2 numT_free numT_free]
    show (if NumOk (numT p.1) ∧ NumOk (numT p.2) ∧ 2 ≤ numV (numT p.2) ∧ Nat.gcd (numV (numT p.1)).natAbs (numV (numT p.2)).natAbs = 1 then some (numV (numT p.1), numV (numT p.2)) else none) = some p
    rw [if_pos ⟨o1, o2, by rw [v2]; omega, by rw [v1, v2]; exact hc⟩, v1, v2]

/-! ### written, number_in -/
theorem eqD_str (a b : Str) : eqD (.str a) (.str b) = decide (a = b) := by
  unfold eqD D.py
  simp only [PyData.eqv]
  rw [Bool.eq_iff_iff]
  simp
theorem atI_zero {α : Type} (c : α) (r : List α) : atI (c :: r) 0 = some c := atI_nat' (show 0 < (c :: r).length from Nat.succ_pos _)
theorem word_inj {a b : List Nat} : word a = word b ↔ a = b := ⟨fun h => by
  have := congrArg (fun x : Str => x.cps.toList) h
  simpa only [word_list] using this, fun h => by rw [h]⟩
structure TxL (l : List Nat) : Prop where
  lo : ∀ c ∈ l, c < 128
  few : l.length ≤ 200
theorem TxL.ok {l : List Nat} (h : TxL l) : PyData.strOk (word l) = true := by
  unfold PyData.strOk
  rw [← Array.all_toList, List.all_eq_true, word_list]
  exact fun c hc => decide_eq_true (by have := h.lo c hc; omega)
theorem TxL.wl {l : List Nat} (h : TxL l) : (word l).length ≤ 100000 := by rw [word_len]; have := h.few; omega
theorem TxL.sub {l m : List Nat} (h : TxL l) (hs : ∀ c ∈ m, c ∈ l) (hl : m.length ≤ l.length) : TxL m := ⟨fun c hc => h.lo c (hs c hc), Nat.le_trans hl h.few⟩
theorem figs_mem {l : List Nat} : ∀ c ∈ figs l, c ∈ l := fun c hc => by
  unfold figs at hc
  split at hc
  · exact List.mem_of_mem_drop hc
  · exact hc
theorem figs_len (l : List Nat) : (figs l).length ≤ l.length := by
  unfold figs
  split
  · rw [List.length_drop]; omega
  · exact Nat.le_refl _
theorem TxL.figs {l : List Nat} (h : TxL l) : TxL (figs l) := h.sub figs_mem (figs_len l)
theorem cut_to (l : List Nat) (k : Nat) : cutS (word l) none (some (k : Int)) = word (l.take k) := by
  unfold cutS
  rw [HT.sIx_none, HT.sIx_nat, word_list, word_len, List.drop_zero, Nat.sub_zero]
  unfold word
  congr 2
  rcases Nat.le_total k l.length with h | h
  · rw [Nat.min_eq_left h]
  · rw [Nat.min_eq_right h, List.take_of_length_le (Nat.le_refl _), List.take_of_length_le h]
theorem cut_from (l : List Nat) (k : Nat) : cutS (word l) (some (k : Int)) none = word (l.drop k) := by
  unfold cutS
  rw [HT.sIx_none, HT.sIx_nat, word_list, word_len]
  unfold word
  congr 2
  rcases Nat.le_total k l.length with h | h
  · rw [Nat.min_eq_left h, List.take_of_length_le (by rw [List.length_drop]; exact Nat.le_refl _)]
  · rw [Nat.min_eq_right h, Nat.sub_self, List.take_zero, List.drop_eq_nil_of_le h]
theorem numT_tx {i : Int} (h : i.natAbs < 10 ^ 60) : TxL (numT i) := by
  have o := (numT_ok h).1
  refine ⟨fun c hc => ?_, Nat.le_trans o.len (by decide)⟩
  by_cases e : (numT i).take 1 = [45]
  · rw [take_one e] at hc
    rcases List.mem_cons.mp hc with rfl | hc
    · decide
    · have := o.dig c hc; omega
  · have := o.dig c (by rw [figs_pos e]; exact hc); omega
def Swr : List D → D → Prop := fun ds d => ∃ p : Int × Int, ds = [sh p] ∧ p.1.natAbs < 10 ^ 60 ∧ p.2.natAbs < 10 ^ 60 ∧ d = .str (word (wrT p))
theorem log60 {i : Int} (h : i.natAbs < 10 ^ 60) : i.natAbs.log2 < 1920 := Nat.lt_of_le_of_lt (log2_mono (Nat.le_of_lt h)) (by decide +kernel)
theorem ok_written (T : Tx K mg a_WeighError a_Nought a_NoText a_NoRow a_NoMachine a_NoWord a_OtherSigns a_TooMany) : Cl P w K mg base CX0 1 "written" (spR K Swr) := by
  refine clR T.d_written sc_written (fun ds d h => by obtain ⟨_, rfl, _⟩ := h; rfl) fun f cdv A outer s H E hr => ?_
  refine ⟨_, (pss_cons (ps_if (pt_cmpR (op_eqD hr.units) (pe_ix ix_seq (pv 0) pe_int (fun _ _ => rfl)) pe_int (nomark _))
  (pss_one (ps_ret (pe_callTy call_str_int (by rfl) T.n_str bt_str (pa_cons (pe_ix ix_seq (pv 0) pe_int (fun _ _ => rfl)) pa_nil))))
  pss_nil)
  (pss_one (ps_ret (pe_op opAdd (pe_op opAdd (pe_callTy call_str_int (by rfl) T.n_str bt_str (pa_cons (pe_ix ix_seq (pv 0) pe_int (fun _ _ => rfl)) pa_nil)) pe_str) (pe_callTy call_str_int (by rfl) T.n_str bt_str (pa_cons (pe_ix ix_seq (pv 0) pe_int (fun _ _ => rfl)) pa_nil)))))), fun ds d h => ?_⟩
  obtain ⟨p, rfl, h1, h2, rfl⟩ := h
  have i0 : Ed K (tOp (rIx K) (tVar 0) (tC (.int 0))) [.fz (sh p)] (.int p.1) := ed_op (ed_fz 0 rfl) (ed_int 0) (r2_ixT rfl)
  have i1 : Ed K (tOp (rIx K) (tVar 0) (tC (.int 1))) [.fz (sh p)] (.int p.2) := ed_op (ed_fz 0 rfl) (ed_int 1) (r2_ixT rfl)
  have t1 := (numT_ok h1).1.len
  have t2 := (numT_ok h2).1.len
  by_cases h : p.2 = 1
  · rw [show wrT p = numT p.1 from if_pos h]
    exact sd_stop (sd_ifT (et_is (et_test (ed_op i1 (ed_int 1) r2_eqI)) (decide_eq_true h)) (sd_ret (ed_is (ed_cb (ea_cons i0 ea_nil) (rc_strI (log60 h1))) (congrArg D.str (str_int p.1))))) rfl
  · rw [show wrT p = numT p.1 ++ 47 :: numT p.2 from if_neg h]
    refine sd_seq (sd_ifF (et_is (et_test (ed_op i1 (ed_int 1) r2_eqI)) (decide_eq_false h)) sd_next) ?_
    refine sd_ret (ed_is (ed_op (ed_op (ed_is (ed_cb (ea_cons i0 ea_nil) (rc_strI (log60 h1))) (congrArg D.str (str_int p.1))) (ed_is (ed_str _) (show _ = D.str (word [47]) from rfl)) (r2_addS (by rw [word_len, word_len, List.length_singleton]; omega))) (ed_is (ed_cb (ea_cons i1 ea_nil) (rc_strI (log60 h2))) (congrArg D.str (str_int p.2))) (r2_addS ?_)) ?_)
    · rw [word_add, word_len, word_len, List.length_append, List.length_singleton]; omega
    · rw [word_add, word_add]
      simp
def Snum : List D → D → Prop := fun ds d => ∃ l, ds = [.str (word l)] ∧ TxL l ∧ NumOk l ∧ d = .int (numV l)
def Tnum (C : Addr) : List D → Addr → Prop := fun ds c => ∃ l, ds = [.str (word l)] ∧ TxL l ∧ ¬ NumOk l ∧ c = C
theorem ok_number_in (T : Tx K mg a_WeighError a_Nought a_NoText a_NoRow a_NoMachine a_NoWord a_OtherSigns a_TooMany) : Cl P w K mg base (L2.CX P w) 1 "number_in" (spX K Snum (Tnum a_NoText)) := by
  refine clX T.d_number_in sc_number_in (fun ds d h => by obtain ⟨_, rfl, _⟩ := h; rfl) (fun ds d h => by obtain ⟨_, rfl, _⟩ := h; rfl) fun f cdv A outer s H E hr => ?_
  refine ⟨_, (pss_cons (ps_set (i := 1) sc_number_in.nd rfl (by first | exact Or.inl rfl | exact Or.inr rfl) (pv 0))
  (pss_cons (ps_if (pt_cmpR (op_eqD hr.units) (pe_slice slA (pv 0) po_none (po_some pe_int)) pe_str (nomark _))
  (pss_one (ps_set (i := 1) sc_number_in.nd rfl (by first | exact Or.inl rfl | exact Or.inr rfl) (pe_slice slA (pv 0) (po_some pe_int) po_none)))
  pss_nil)
  (pss_cons (ps_if (PW.pt (pw_or (pt_not (pt_chain opLe opLe pe_int (pe_callB callLen (by rfl) T.n_len bt_len (pa_cons (pv 1) pa_nil)) (pe_globI rfl T.m_MOST_FIGURES))) (pw_or1 (pt_not (pt_val (pe_callB (cr_all rfl) (by rfl) T.n_all bt_all (pa_cons (pe_lc rfl sc_number_in.nd (own := [("sign", 2)]) (pi_str (pv 1)) (blkOk_by (by kernel_rfl)) (fun _ _ _ _ _ => (pg_name (i := 2) sc_number_in.nd rfl (by first | exact Or.inl rfl | exact Or.inr rfl))) (fun _ _ _ _ _ => pts_nil) (fun _ _ _ _ _ => (pe_cmpR op_in_sign (pv 2) (pe_globS rfl T.m_FIGURES) (by with_unfolding_all rfl)))) pa_nil)))))))
  (pss_one (ps_raise rfl (takes_of rfl rfl rfl rfl) (pmk_own PySem.F.excBase_ValueError T.x_NoText T.m_NoText T.k_NoText (raises_own T.b_NoText T.t_NoText) rfl)))
  pss_nil)
  (pss_cons (ps_if (PW.pt (pw_and (pt_cmpR (op_eqD hr.units) (pe_ix ix_seq (pv 1) pe_int (fun _ _ => rfl)) pe_str (nomark _)) (pw_and1 (pt_cmpR (op_neD hr.units) (pv 0) pe_str (nomark _)))))
  (pss_one (ps_raise rfl (takes_of rfl rfl rfl rfl) (pmk_own PySem.F.excBase_ValueError T.x_NoText T.m_NoText T.k_NoText (raises_own T.b_NoText T.t_NoText) rfl)))
  pss_nil)
  (pss_one (ps_ret (pe_callTy callInt (by rfl) T.n_int bt_int (pa_cons (pv 0) pa_nil)))))))), fun ds d h => ?_, fun ds c h => ?_⟩
  all_goals obtain ⟨l, rfl, tx, hn, rfl⟩ := h
  all_goals have wl := tx.wl
  all_goals have fx := tx.figs
  all_goals have ff := fx.few
  all_goals have t1 : Et K (tTest (tOp (rEqD K) (tSl (rSlA K) (tVar 0) tNoPart (tPart (tC (.int 1)))) (tC (.str "-")))) [.fz (.str (word l)), .fz (.str (word l)), .no] (decide (l.take 1 = [45])) := et_is (et_test (ed_op (ed_is (ed_sl (ed_fz 0 rfl) eo_none (eo_some (ed_int 1)) (rs_str wl)) (congrArg D.str (cut_to l 1))) (ed_str _) (r2_eq (.str (n := 0) (tx.sub (fun c hc => List.mem_of_mem_take hc) (by rw [List.length_take]; omega)).ok) (.str (n := 0) (by decide +kernel))))) (by rw [eqD_str]; exact decide_eq_decide.mpr (word_inj (a := l.take 1) (b := [45])))
  all_goals refine sd_seq (Γ1 := [.fz (.str (word l)), .fz (.str (word l)), .no]) (sd_set 1 (ed_fz 0 rfl)) ?_
  all_goals refine sd_seq (Γ1 := [.fz (.str (word l)), .fz (.str (word (figs l))), .no]) (sd_if t1 (fun h => sd_is (sd_set 1 (ed_is (ed_sl (ed_fz 0 rfl) (eo_some (ed_int 1)) eo_none (rs_str wl)) (congrArg D.str (show _ = word (figs l) by rw [show figs l = l.drop 1 from if_pos (of_decide_eq_true h)]; exact cut_from l 1)))) rfl) fun h => sd_is sd_next (by rw [figs_pos (of_decide_eq_false h)])) ?_
  all_goals have len : Ed K (tCB (rLenA K) (tCons (tVar 1) tNil)) [.fz (.str (word l)), .fz (.str (word (figs l))), .no] (.int ((figs l).length : Nat)) := ed_is (ed_cb (ea_cons (ed_fz 1 rfl) ea_nil) (rc_lenS fx.wl)) (congrArg D.int (by rw [word_len]))
  · refine sd_seq (sd_ifF (et_orF (et_nF (et_is (et_chain (ed_int 1) len r2_leI fun _ => ⟨ed_int 60, r2_leI⟩) (by rw [decide_eq_true (show (1 : Int) ≤ ((figs l).length : Nat) by have := hn.lo; omega), decide_eq_true (show (((figs l).length : Nat) : Int) ≤ 60 by have := hn.hi; omega)]; rfl))) (et_nF (et_B (ed_is (ed_cb (ea_cons (ed_is (ed_map (figs l) (fun c => .str (word [c])) (fun c => .bl (decide (c ∈ figL))) (Ei.is (ei_str (ed_fz 1 rfl)) (sgn_word _)) (by omega) fun c hc => ⟨[2], _, eg_name 2, by simp, ed_is (ed_op (ed_fz 2 rfl) (ed_str _) (r2_in (c := c))) (congrArg (fun m => D.bl (decide (c ∈ m))) figT_list)⟩) (show _ = D.lst (((figs l).map fun c => decide (c ∈ figL)).map D.bl) by rw [List.map_map]; rfl)) ea_nil) rc_all) (congrArg D.bl (by rw [List.all_map, List.all_eq_true]; exact fun c hc => decide_eq_true (hn.dg c hc))))))) sd_next) ?_
    refine sd_seq (sd_ifF ?_ sd_next) (sd_ret (ed_cb (ea_cons (ed_fz 0 rfl) ea_nil) (rc_intS (num_int hn) (by rw [word_len]; have := hn.len; omega))))
    match e : figs l with
    | [] => exact absurd e hn.ne
    | c :: r =>
      rw [e] at fx
      have hd := hn.hd
      rw [e] at hd
      have f0 : Et K (tTest (tOp (rEqD K) (tOp (rIx K) (tVar 1) (tC (.int 0))) (tC (.str "0")))) [.fz (.str (word l)), .fz (.str (word (c :: r))), .no] (decide (c = 48)) := et_is (et_test (ed_op (ed_op (ed_fz 1 rfl) (ed_int 0) (r2_ixS fx.wl (by rw [word_list]; exact atI_zero _ _))) (ed_str _) (r2_eq (.str (n := 0) (fx.sub (m := [c]) (fun x hx => by rw [List.mem_singleton.mp hx]; exact List.mem_cons_self) (by simp)).ok) (.str (n := 0) (by decide +kernel))))) (by rw [eqD_str]; exact decide_eq_decide.mpr ((word_inj (a := [c]) (b := [48])).trans (by simp)))
      by_cases hc : c = 48
      · refine et_andT (et_is f0 (decide_eq_true hc)) (et_is (et_test (ed_op (ed_fz 0 rfl) (ed_str _) (r2_ne (.str (n := 0) tx.ok) (.str (n := 0) (by decide +kernel))))) ?_)
        rw [eqD_str]
        have hl : l = [48] := Classical.byContradiction fun z => hd ⟨by rw [hc]; rfl, z⟩
        rw [decide_eq_true (show word l = _ by rw [hl]; rfl)]
        rfl
      · exact et_andF (et_is f0 (decide_eq_false hc))
  · have all : ∀ {b : Bool}, (figs l).all (fun c => decide (c ∈ figL)) = b → Ed K (tCB (rAll K) (tCons (tLc (iStr (tVar 1)) (gName 2) tYes (tOp rInC (tVar 2) (tC (.str "0123456789"))) [2]) tNil)) [.fz (.str (word l)), .fz (.str (word (figs l))), .no] (.bl b) := fun {b} hb => ed_is (ed_cb (ea_cons (ed_is (ed_map (figs l) (fun c => .str (word [c])) (fun c => .bl (decide (c ∈ figL))) (Ei.is (ei_str (ed_fz 1 rfl)) (sgn_word _)) (by omega) fun c hc => ⟨[2], _, eg_name 2, by simp, ed_is (ed_op (ed_fz 2 rfl) (ed_str _) (r2_in (c := c))) (congrArg (fun m => D.bl (decide (c ∈ m))) figT_list)⟩) (show _ = D.lst (((figs l).map fun c => decide (c ∈ figL)).map D.bl) by rw [List.map_map]; rfl)) ea_nil) rc_all) (congrArg D.bl (by rw [List.all_map]; exact hb))
    by_cases hl : 1 ≤ (figs l).length ∧ (figs l).length ≤ 60
    · have ch := et_chain (tc := tC (.int 60)) (dz := .int 60) (r := rLeA) (r' := rLeA) (ed_int 1) len r2_leI fun _ => ⟨ed_int 60, r2_leI⟩
      rw [decide_eq_true (show (1 : Int) ≤ ((figs l).length : Nat) by omega), decide_eq_true (show (((figs l).length : Nat) : Int) ≤ 60 by omega)] at ch
      cases ha : (figs l).all fun c => decide (c ∈ figL) with
      | false => exact sd_stop (sd_ifT (et_orF (et_nF ch) (et_nT (et_B (all ha)))) sd_raise) rfl
      | true =>
        refine sd_seq (sd_ifF (et_orF (et_nF ch) (et_nF (et_B (all ha)))) sd_next) (sd_stop (sd_ifT ?_ sd_raise) rfl)
        have hdg : ∀ c ∈ figs l, c ∈ figL := fun c hc => of_decide_eq_true (List.all_eq_true.mp ha c hc)
        have hh : (figs l).head? = some 48 ∧ l ≠ [48] := Classical.byContradiction fun z => hn ⟨hl.1, hl.2, hdg, z⟩
        match e : figs l with
        | [] => rw [e] at hl; exact absurd hl.1 (by decide)
        | c :: r =>
          rw [e] at fx hh
          have hc : c = 48 := by simpa using hh.1
          subst hc
          refine et_andT (et_is (et_test (ed_op (ed_op (ed_fz 1 rfl) (ed_int 0) (r2_ixS fx.wl (by rw [word_list]; exact atI_zero _ _))) (ed_str _) (r2_eq (.str (n := 0) (fx.sub (m := [48]) (fun x hx => by rw [List.mem_singleton.mp hx]; exact List.mem_cons_self) (by simp)).ok) (.str (n := 0) (by decide +kernel))))) (by rw [eqD_str]; exact decide_eq_true rfl)) (et_is (et_test (ed_op (ed_fz 0 rfl) (ed_str _) (r2_ne (.str (n := 0) tx.ok) (.str (n := 0) (by decide +kernel))))) ?_)
          rw [eqD_str, decide_eq_false (show ¬ word l = Str.ofString "0" from fun z => hh.2 ((word_inj (a := l) (b := [48])).mp z))]
          rfl
    · have ch := et_chain (tc := tC (.int 60)) (dz := .int 60) (r := rLeA) (r' := rLeA) (ed_int 1) len r2_leI fun _ => ⟨ed_int 60, r2_leI⟩
      have cf : (decide ((1 : Int) ≤ ((figs l).length : Nat)) && decide ((((figs l).length : Nat) : Int) ≤ 60)) = false := by
        rw [Bool.and_eq_false_iff]
        by_cases h1 : 1 ≤ (figs l).length
        · exact .inr (decide_eq_false (by omega))
        · exact .inl (decide_eq_false (by omega))
      rw [cf] at ch
      exact sd_stop (sd_ifT (et_orT (et_nT ch)) sd_raise) rfl

/-! ### read -/
def rdD : D → Option (Int × Int)
  | .str z => rdQ z.cps.toList
  | _ => none
theorem rdD_str (l : List Nat) : rdD (.str (word l)) = rdQ l := by
  show rdQ (word l).cps.toList = rdQ l
  rw [word_list]
def Rdb (o : D) : Prop := (∃ l, o = .str (word l) ∧ TxL l) ∨ (∃ U, tyD o = some U ∧ kitB U "str" = some false ∧ rdD o = none)
theorem fold_lt : ∀ (cs : List Nat) (a : Nat), NumText.AllDigits cs → cs.foldl (fun acc c => acc * 10 + (c - 48)) a < (a + 1) * 10 ^ cs.length := fun cs => by
  induction cs with
  | nil => exact fun a _ => by simp
  | cons c cs ih =>
    intro a hd
    have i := ih (a * 10 + (c - 48)) fun x hx => hd x (List.mem_cons_of_mem _ hx)
    have hc := hd c List.mem_cons_self
    rw [List.foldl_cons, List.length_cons, Nat.pow_succ]
    refine Nat.lt_of_lt_of_le i ?_
    have e : (a + 1) * (10 ^ cs.length * 10) = (a * 10 + 10) * 10 ^ cs.length := by rw [Nat.mul_comm (10 ^ cs.length) 10, ← Nat.mul_assoc]; congr 1; omega
    rw [e]
    exact Nat.mul_le_mul_right _ (by omega)
theorem dv_lt {cs : List Nat} (h : NumText.AllDigits cs) : NumText.digitsVal cs < 10 ^ cs.length := by
  have := fold_lt cs 0 h
  rw [Nat.zero_add, Nat.one_mul] at this
  exact this
theorem NumOk.val {a : List Nat} (h : NumOk a) : (numV a).natAbs < 10 ^ 60 := by
  have t := num_txt h
  have d := NumText.toDigits_digitsVal ((figs a).length - 1) (figs a) (by have := h.lo; omega) h.dig h.first
  have l1 : NumText.digitsVal (figs a) < 10 ^ (figs a).length := dv_lt h.dig
  have l2 : 10 ^ (figs a).length ≤ 10 ^ 60 := Nat.pow_le_pow_right (by decide) h.hi
  unfold numV
  split <;> omega
theorem one_ok : NumOk [49] := by decide
theorem one_val : numV [49] = 1 := by decide
def Sread : List D → D → Prop := fun ds d => ∃ o p, ds = [o] ∧ Rdb o ∧ rdD o = some p ∧ d = sh p
def Tread (C : Addr) : List D → Addr → Prop := fun ds c => ∃ o, ds = [o] ∧ Rdb o ∧ rdD o = none ∧ c = C
theorem spl_sub {l : List Nat} : ∀ acc : List Nat, ∀ p ∈ TL.spl [47] 0 acc l, (∀ c ∈ p, c ∈ acc ∨ c ∈ l) ∧ p.length ≤ acc.length + l.length := by
  induction l with
  | nil =>
    intro acc p hp
    rw [show TL.spl [47] 0 acc [] = [acc] from rfl] at hp
    rw [List.mem_singleton.mp hp]
    exact ⟨fun c hc => .inl hc, by simp⟩
  | cons x r ih =>
    intro acc p hp
    by_cases hx : x = 47
    · subst hx
      rw [TL.spl_hit (by simp [TL.pre])] at hp
      rcases List.mem_cons.mp hp with rfl | hp
      · exact ⟨fun c hc => .inl hc, by simp⟩
      · obtain ⟨a, b⟩ := ih [] p hp
        exact ⟨fun c hc => (a c hc).elim (fun z => nomatch z) fun z => .inr (List.mem_cons_of_mem _ z), by simp at b; simp; omega⟩
    · have hp0 : TL.pre [47] (x :: r) = false := by simp [TL.pre, hx]
      have e : TL.spl [47] 0 acc (x :: r) = TL.spl [47] 0 (acc ++ [x]) r := by
        show (if TL.pre [47] (x :: r) = true then acc :: TL.spl [47] (([47] : List Nat).length - 1) [] r else TL.spl [47] 0 (acc ++ [x]) r) = _
        rw [hp0, if_neg (by decide)]
      rw [e] at hp
      obtain ⟨a, b⟩ := ih (acc ++ [x]) p hp
      refine ⟨fun c hc => ?_, by simp at b; simp; omega⟩
      rcases a c hc with z | z
      · rcases List.mem_append.mp z with z | z
        · exact .inl z
        · rw [List.mem_singleton.mp z]; exact .inr List.mem_cons_self
      · exact .inr (List.mem_cons_of_mem _ z)
theorem TxL.part {l p : List Nat} (h : TxL l) (hp : p ∈ spl l) : TxL p := by
  obtain ⟨a, b⟩ := spl_sub (l := l) [] p hp
  exact h.sub (fun c hc => (a c hc).elim (fun z => nomatch z) id) (by simpa using b)
theorem isSh_sh (p q : Int) : isSh (.tup [.int p, .int q]) = (decide (0 < q) && decide (Nat.gcd p.natAbs q.natAbs = 1)) := by
  show (decide (0 < q) && decide (Nat.gcd p.natAbs q.toNat = 1)) = _
  by_cases h : 0 < q
  · rw [show q.toNat = q.natAbs by omega]
  · rw [decide_eq_false h]; rfl
theorem ok_read (T : Tx K mg a_WeighError a_Nought a_NoText a_NoRow a_NoMachine a_NoWord a_OtherSigns a_TooMany) (c_number_in : Cl P w K mg base (L2.CX P w) 1 "number_in" (spX K Snum (Tnum a_NoText))) (c_is_share : Cl P w K mg base CX0 2 "is_share" (spR K Sis)) (c_written : Cl P w K mg base CX0 1 "written" (spR K Swr)) : Cl P w K mg base (L2.CX P w) 3 "read" (spX K Sread (Tread a_NoText)) := by
  refine clX T.d_read sc_read (fun ds d h => by obtain ⟨_, _, rfl, _⟩ := h; rfl) (fun ds d h => by obtain ⟨_, rfl, _⟩ := h; rfl) fun f cdv A outer s H E hr => ?_
  refine ⟨_, (pss_cons (ps_if (pt_not (pt_val (pe_callB call_isi (by rfl) T.n_isinstance bt_isinstance (pa_cons (pv 0) (pa_cons (pe_bltn (v := .ty "str") (by rfl) T.n_str bt_str rfl) pa_nil)))))
  (pss_one (ps_raise rfl (takes_of rfl rfl rfl rfl) (pmk_own PySem.F.excBase_ValueError T.x_NoText T.m_NoText T.k_NoText (raises_own T.b_NoText T.t_NoText) rfl)))
  pss_nil)
  (pss_cons (ps_set (i := 1) sc_read.nd rfl (by first | exact Or.inl rfl | exact Or.inr rfl) (pe_split (pv 0) pe_str))
  (pss_cons (ps_if (pt_cmpR op_gt (pe_callB callLen (by rfl) T.n_len bt_len (pa_cons (pv 1) pa_nil)) pe_int (nomark _))
  (pss_one (ps_raise rfl (takes_of rfl rfl rfl rfl) (pmk_own PySem.F.excBase_ValueError T.x_NoText T.m_NoText T.k_NoText (raises_own T.b_NoText T.t_NoText) rfl)))
  pss_nil)
  (pss_cons (ps_set (i := 2) sc_read.nd rfl (by first | exact Or.inl rfl | exact Or.inr rfl) (pe_tup (pa_cons (pclR c_number_in hr (by decide) rfl (passes_call (takes_of rfl rfl rfl rfl) fun _ _ _ _ h => h) (pa_cons (pe_ix ix_seq (pv 1) pe_int (fun _ _ => rfl)) pa_nil)) (pa_cons (pclR c_number_in hr (by decide) rfl (passes_call (takes_of rfl rfl rfl rfl) fun _ _ _ _ h => h) (pa_cons (pe_ix ix_seq (pe_op opAdd (pv 1) (pe_lst (pa_cons pe_str pa_nil))) pe_int (fun _ _ => rfl)) pa_nil)) pa_nil))))
  (pss_cons (ps_if (PW.pt (pw_or (pt_not (pt_val (pcl c_is_share hr (by decide) rfl (pa_cons (pv 2) pa_nil)))) (pw_or1 (pt_cmpR (op_neD hr.units) (pcl c_written hr (by decide) rfl (pa_cons (pv 2) pa_nil)) (pv 0) (nomark _)))))
  (pss_one (ps_raise rfl (takes_of rfl rfl rfl rfl) (pmk_own PySem.F.excBase_ValueError T.x_NoText T.m_NoText T.k_NoText (raises_own T.b_NoText T.t_NoText) rfl)))
  pss_nil)
  (pss_one (ps_ret (pv 2)))))))), fun ds d h => ?_, fun ds c h => ?_⟩
  · obtain ⟨o, p, rfl, hb, hp, rfl⟩ := h
    rcases hb with ⟨l, rfl, tx⟩ | ⟨U, _, _, hn⟩
    · rw [rdD_str] at hp
      have wl := tx.wl
      refine sd_seq (sd_ifF (et_nF (et_B (ed_cb (ea_cons (ed_fz 0 rfl) (ea_cons (ed_ty _) ea_nil)) (rc_isi rfl (by decide +kernel))))) sd_next) ?_
      refine sd_seq (Γ1 := [.fz (.str (word l)), .fz (.lst ((spl l).map fun a => .str (word a))), .no]) (sd_set 1 (ed_is (ed_split (ed_fz 0 rfl) (ed_str _) (by decide) wl) (by rw [split_w, List.map_map]; rfl))) ?_
      unfold rdQ at hp
      match e : spl l, hp with
      | [a], hp =>
        have ha : NumOk a := Classical.byContradiction fun z => by
          have hp' : (if NumOk a then some (numV a, (1 : Int)) else none) = some p := hp
          rw [if_neg z] at hp'; cases hp'
        have hp' : (if NumOk a then some (numV a, (1 : Int)) else none) = some p := hp
        rw [if_pos ha] at hp'
        cases hp'
        have ta : TxL a := tx.part (by rw [e]; exact List.mem_cons_self)
        have el := spl_one e
        refine sd_seq (sd_ifF (et_is (et_test (ed_op (ed_cb (ea_cons (ed_fz 1 rfl) ea_nil) rc_lenL) (ed_int 2) r2_gt)) rfl) sd_next) ?_
        refine sd_seq (Γ1 := [.fz (.str (word l)), .fz (.lst [.str (word a)]), .fz (sh (numV a, 1))]) (sd_set 2 (ed_tup (ea_cons (ed_callX (ea_cons (ed_op (ed_fz 1 rfl) (ed_int 0) (r2_ixL rfl)) ea_nil) ⟨a, rfl, ta, ha, rfl⟩) (ea_cons (ed_is (ed_callX (ea_cons (ed_op (ed_op (ed_fz 1 rfl) (ed_lst (ea_cons (ed_str _) ea_nil)) (r2_addL (Nat.le_of_ble_eq_true rfl))) (ed_int 1) (r2_ixL rfl)) ea_nil) ⟨[49], rfl, ⟨by decide, by decide⟩, one_ok, rfl⟩) (congrArg D.int one_val)) ea_nil)))) ?_
        refine sd_seq (sd_ifF (et_orF (et_nF (et_B (ed_is (ed_call (ea_cons (ed_fz 2 rfl) ea_nil) ⟨_, rfl, ⟨_, rfl⟩, fun x y h => by cases h; exact ⟨⟨_, rfl⟩, _, rfl⟩, rfl⟩) (congrArg D.bl (by rw [isSh_sh]; simp))))) (et_is (et_test (ed_op (ed_call (ea_cons (ed_fz 2 rfl) ea_nil) ⟨(numV a, 1), rfl, ha.val, show (1 : Int).natAbs < 10 ^ 60 by decide, rfl⟩) (ed_fz 0 rfl) (r2_ne (.str (n := 0) (by rw [show wrT (numV a, 1) = a from num_txt ha]; exact ta.ok)) (.str (n := 0) tx.ok)))) (by rw [eqD_str, decide_eq_true (show word (wrT (numV a, 1)) = word l by rw [show wrT (numV a, 1) = a from num_txt ha, el])]; rfl))) sd_next) (sd_ret (ed_fz 2 rfl))
      | [a, b], hp =>
        have hc : NumOk a ∧ NumOk b ∧ 2 ≤ numV b ∧ Nat.gcd (numV a).natAbs (numV b).natAbs = 1 := Classical.byContradiction fun z => by
          have hp' : (if NumOk a ∧ NumOk b ∧ 2 ≤ numV b ∧ Nat.gcd (numV a).natAbs (numV b).natAbs = 1 then some (numV a, numV b) else none) = some p := hp
          rw [if_neg z] at hp'; cases hp'
        have hp' : (if NumOk a ∧ NumOk b ∧ 2 ≤ numV b ∧ Nat.gcd (numV a).natAbs (numV b).natAbs = 1 then some (numV a, numV b) else none) = some p := hp
        rw [if_pos hc] at hp'
        cases hp'
        obtain ⟨ha, hb, h2, hg⟩ := hc
        have ta : TxL a := tx.part (by rw [e]; exact List.mem_cons_self)
        have tb : TxL b := tx.part (by rw [e]; exact List.mem_cons_of_mem _ List.mem_cons_self)
        have el := spl_two e
        have wr : wrT (numV a, numV b) = l := by
          rw [show wrT (numV a, numV b) = numT (numV a) ++ 47 :: numT (numV b) from if_neg (show ¬ numV b = 1 by omega), num_txt ha, num_txt hb, el]
        refine sd_seq (sd_ifF (et_is (et_test (ed_op (ed_cb (ea_cons (ed_fz 1 rfl) ea_nil) rc_lenL) (ed_int 2) r2_gt)) rfl) sd_next) ?_
        refine sd_seq (Γ1 := [.fz (.str (word l)), .fz (.lst [.str (word a), .str (word b)]), .fz (sh (numV a, numV b))]) (sd_set 2 (ed_tup (ea_cons (ed_callX (ea_cons (ed_op (ed_fz 1 rfl) (ed_int 0) (r2_ixL rfl)) ea_nil) ⟨a, rfl, ta, ha, rfl⟩) (ea_cons (ed_callX (ea_cons (ed_op (ed_op (ed_fz 1 rfl) (ed_lst (ea_cons (ed_str _) ea_nil)) (r2_addL (Nat.le_of_ble_eq_true rfl))) (ed_int 1) (r2_ixL rfl)) ea_nil) ⟨b, rfl, tb, hb, rfl⟩) ea_nil)))) ?_
        refine sd_seq (sd_ifF (et_orF (et_nF (et_B (ed_is (ed_call (ea_cons (ed_fz 2 rfl) ea_nil) ⟨_, rfl, ⟨_, rfl⟩, fun x y h => by cases h; exact ⟨⟨_, rfl⟩, _, rfl⟩, rfl⟩) (congrArg D.bl (by rw [isSh_sh, decide_eq_true (show 0 < numV b by omega), decide_eq_true hg]; rfl))))) (et_is (et_test (ed_op (ed_call (ea_cons (ed_fz 2 rfl) ea_nil) ⟨(numV a, numV b), rfl, ha.val, hb.val, rfl⟩) (ed_fz 0 rfl) (r2_ne (.str (n := 0) (by rw [wr]; exact tx.ok)) (.str (n := 0) tx.ok)))) (by rw [eqD_str, decide_eq_true (show word (wrT (numV a, numV b)) = word l by rw [wr])]; rfl))) sd_next) (sd_ret (ed_fz 2 rfl))
      | [], hp => cases hp
      | _ :: _ :: _ :: _, hp => cases hp
    · rw [hn] at hp
      cases hp
  · obtain ⟨o, rfl, hb, hp, rfl⟩ := h
    rcases hb with ⟨l, rfl, tx⟩ | ⟨U, hU, hk, _⟩
    · rw [rdD_str] at hp
      have wl := tx.wl
      refine sd_seq (sd_ifF (et_nF (et_B (ed_cb (ea_cons (ed_fz 0 rfl) (ea_cons (ed_ty _) ea_nil)) (rc_isi rfl (by decide +kernel))))) sd_next) ?_
      refine sd_seq (Γ1 := [.fz (.str (word l)), .fz (.lst ((spl l).map fun a => .str (word a))), .no]) (sd_set 1 (ed_is (ed_split (ed_fz 0 rfl) (ed_str _) (by decide) wl) (by rw [split_w, List.map_map]; rfl))) ?_
      unfold rdQ at hp
      match e : spl l, hp with
      | [a], hp =>
        have ha : ¬ NumOk a := fun z => by
          have hp' : (if NumOk a then some (numV a, (1 : Int)) else none) = none := hp
          rw [if_pos z] at hp'; cases hp'
        have ta : TxL a := tx.part (by rw [e]; exact List.mem_cons_self)
        refine sd_seq (sd_ifF (et_is (et_test (ed_op (ed_cb (ea_cons (ed_fz 1 rfl) ea_nil) rc_lenL) (ed_int 2) r2_gt)) rfl) sd_next) ?_
        exact sd_stop (sd_setX (xd_tup (xa_head (xd_callX (ea_cons (ed_op (ed_fz 1 rfl) (ed_int 0) (r2_ixL rfl)) ea_nil) ⟨a, rfl, ta, ha, rfl⟩)))) rfl
      | [a, b], hp =>
        have ta : TxL a := tx.part (by rw [e]; exact List.mem_cons_self)
        have tb : TxL b := tx.part (by rw [e]; exact List.mem_cons_of_mem _ List.mem_cons_self)
        refine sd_seq (sd_ifF (et_is (et_test (ed_op (ed_cb (ea_cons (ed_fz 1 rfl) ea_nil) rc_lenL) (ed_int 2) r2_gt)) rfl) sd_next) ?_
        by_cases ha : NumOk a
        · by_cases hb : NumOk b
          · have hn : ¬ (2 ≤ numV b ∧ Nat.gcd (numV a).natAbs (numV b).natAbs = 1) := fun z => by
              have hp' : (if NumOk a ∧ NumOk b ∧ 2 ≤ numV b ∧ Nat.gcd (numV a).natAbs (numV b).natAbs = 1 then some (numV a, numV b) else none) = none := hp
              rw [if_pos ⟨ha, hb, z⟩] at hp'; cases hp'
            refine sd_seq (Γ1 := [.fz (.str (word l)), .fz (.lst [.str (word a), .str (word b)]), .fz (sh (numV a, numV b))]) (sd_set 2 (ed_tup (ea_cons (ed_callX (ea_cons (ed_op (ed_fz 1 rfl) (ed_int 0) (r2_ixL rfl)) ea_nil) ⟨a, rfl, ta, ha, rfl⟩) (ea_cons (ed_callX (ea_cons (ed_op (ed_op (ed_fz 1 rfl) (ed_lst (ea_cons (ed_str _) ea_nil)) (r2_addL (Nat.le_of_ble_eq_true rfl))) (ed_int 1) (r2_ixL rfl)) ea_nil) ⟨b, rfl, tb, hb, rfl⟩) ea_nil)))) ?_
            have shr : ∀ {v : Bool}, isSh (sh (numV a, numV b)) = v → Ed K (tCall (spR K Sis) [] E0 (tCons (tVar 2) tNil)) [.fz (.str (word l)), .fz (.lst [.str (word a), .str (word b)]), .fz (sh (numV a, numV b))] (.bl v) := fun {v} hv => ed_is (ed_call (ea_cons (ed_fz 2 rfl) ea_nil) ⟨_, rfl, ⟨_, rfl⟩, fun x y h => by cases h; exact ⟨⟨_, rfl⟩, _, rfl⟩, rfl⟩) (congrArg D.bl hv)
            cases hs : isSh (sh (numV a, numV b)) with
            | false => exact sd_stop (sd_ifT (et_orT (et_nT (et_B (shr hs)))) sd_raise) rfl
            | true =>
              have z := isSh_sh (numV a) (numV b)
              rw [show isSh (.tup [.int (numV a), .int (numV b)]) = true from hs] at z
              have z2 := (Bool.and_eq_true _ _).mp z.symm
              have g1 := of_decide_eq_true z2.1
              have g2 := of_decide_eq_true z2.2
              have b1 : numV b = 1 := by
                by_cases h : 2 ≤ numV b
                · exact absurd ⟨h, g2⟩ hn
                · omega
              have wr : wrT (numV a, numV b) = a := by rw [show wrT (numV a, numV b) = numT (numV a) from if_pos b1, num_txt ha]
              have el := spl_two e
              refine sd_stop (sd_ifT (et_orF (et_nF (et_B (shr hs))) (et_is (et_test (ed_op (ed_call (ea_cons (ed_fz 2 rfl) ea_nil) ⟨(numV a, numV b), rfl, ha.val, hb.val, rfl⟩) (ed_fz 0 rfl) (r2_ne (.str (n := 0) (by rw [wr]; exact ta.ok)) (.str (n := 0) tx.ok)))) (by
                rw [eqD_str, decide_eq_false (show ¬ word (wrT (numV a, numV b)) = word l from fun z => ?_)]; rfl
                rw [wr, word_inj] at z
                have := congrArg List.length (z.trans el)
                simp at this))) sd_raise) rfl
          · exact sd_stop (sd_setX (xd_tup (xa_tail (ed_callX (ea_cons (ed_op (ed_fz 1 rfl) (ed_int 0) (r2_ixL rfl)) ea_nil) ⟨a, rfl, ta, ha, rfl⟩) (xa_head (xd_callX (ea_cons (ed_op (ed_op (ed_fz 1 rfl) (ed_lst (ea_cons (ed_str _) ea_nil)) (r2_addL (Nat.le_of_ble_eq_true rfl))) (ed_int 1) (r2_ixL rfl)) ea_nil) ⟨b, rfl, tb, hb, rfl⟩))))) rfl
        · exact sd_stop (sd_setX (xd_tup (xa_head (xd_callX (ea_cons (ed_op (ed_fz 1 rfl) (ed_int 0) (r2_ixL rfl)) ea_nil) ⟨a, rfl, ta, ha, rfl⟩)))) rfl
      | [], hp => exact absurd e (spl_ne l)
      | a :: b :: c :: r, hp =>
        exact sd_stop (sd_ifT (et_is (et_test (ed_op (ed_cb (ea_cons (ed_fz 1 rfl) ea_nil) rc_lenL) (ed_int 2) r2_gt)) (decide_eq_true (by simp; omega))) sd_raise) rfl
    · exact sd_stop (sd_ifT (et_nT (et_B (ed_cb (ea_cons (ed_fz 0 rfl) (ea_cons (ed_ty _) ea_nil)) (rc_isi hU hk)))) sd_raise) rfl

/-! ### the law's own going over -/
def figD (l : List Nat) : D := if NumOk l then .int (numV l) else .non
def Sfg : List D → D → Prop := fun ds d => ∃ l, ds = [.str (word l)] ∧ TxL l ∧ d = figD l
theorem idx_fig : ∀ c ∈ figL, Txt.index0 figT (word [c]) = some (c - 48) := by decide +kernel
theorem ok_figures (T : Tx K mg a_WeighError a_Nought a_NoText a_NoRow a_NoMachine a_NoWord a_OtherSigns a_TooMany) : Cl P w K mg base CX0 1 "_law_figures" (spR K Sfg) := by
  refine clR T.d__law_figures sc_law_figures (fun ds d h => by obtain ⟨_, rfl, _⟩ := h; rfl) fun f cdv A outer s H E hr => ?_
  refine ⟨_, (pss_cons (ps_set (i := 1) sc_law_figures.nd rfl (by first | exact Or.inl rfl | exact Or.inr rfl) (pe_ifExp (pt_cmpR (op_eqD hr.units) (pe_slice slA (pv 0) po_none (po_some pe_int)) pe_str (nomark _)) (pe_slice slA (pv 0) (po_some pe_int) po_none) (pv 0)))
  (pss_cons (ps_if (PW.pt (pw_or (pt_cmpR (op_eqD hr.units) (pv 1) pe_str (nomark _)) (pw_or (pt_cmpR op_gt (pe_callB callLen (by rfl) T.n_len bt_len (pa_cons (pv 1) pa_nil)) pe_int (nomark _)) (pw_or1 (pt_cmpR op_gt (pe_callB callLen (by rfl) T.n_len bt_len (pa_cons (pe_lc rfl sc_law_figures.nd (own := [("_law_sign", 2)]) (pi_str (pv 1)) (blkOk_by (by kernel_rfl)) (fun _ _ _ _ _ => (pg_name (i := 2) sc_law_figures.nd rfl (by first | exact Or.inl rfl | exact Or.inr rfl))) (fun _ _ _ _ _ => (pts_one (pt_cmpR op_notIn_sign (pv 2) pe_str (by with_unfolding_all rfl)))) (fun _ _ _ _ _ => (pv 2))) pa_nil)) pe_int (nomark _))))))
  (pss_one (ps_ret pe_non))
  pss_nil)
  (pss_cons (ps_if (PW.pt (pw_and (pt_cmpR (op_eqD hr.units) (pe_ix ix_seq (pv 1) pe_int (fun _ _ => rfl)) pe_str (nomark _)) (pw_and1 (pt_cmpR (op_neD hr.units) (pv 0) pe_str (nomark _)))))
  (pss_one (ps_ret pe_non))
  pss_nil)
  (pss_cons (ps_set (i := 3) sc_law_figures.nd rfl (by first | exact Or.inl rfl | exact Or.inr rfl) pe_int)
  (pss_cons (ps_for PassesOwn.never rfl (pi_str (pv 1)) (pg_name (i := 2) sc_law_figures.nd rfl (by first | exact Or.inl rfl | exact Or.inr rfl))
  (pss_one (ps_set (i := 3) sc_law_figures.nd rfl (by first | exact Or.inl rfl | exact Or.inr rfl) (pe_op opAdd (pe_op opMul pe_int (pv 3)) (pe_m1 PySem.F.slot_str_index PySem.F.type_str_index mt_indexC pe_str (pv 2))))))
  (pss_one (ps_ret (pe_ifExp (pt_cmpR (op_eqD hr.units) (pe_slice slA (pv 0) po_none (po_some pe_int)) pe_str (nomark _)) (pe_op op_sub pe_int (pv 3)) (pv 3))))))))), fun ds d h => ?_⟩
  obtain ⟨l, rfl, tx, rfl⟩ := h
  have wl := tx.wl
  have fx := tx.figs
  have ff := fx.few
  have t1 : ∀ {Γ : Gam}, Γ[0]? = some (.fz (.str (word l))) → Et K (tTest (tOp (rEqD K) (tSl (rSlA K) (tVar 0) tNoPart (tPart (tC (.int 1)))) (tC (.str "-")))) Γ (decide (l.take 1 = [45])) := fun {Γ} h => et_is (et_test (ed_op (ed_is (ed_sl (ed_fz 0 h) eo_none (eo_some (ed_int 1)) (rs_str wl)) (congrArg D.str (cut_to l 1))) (ed_str _) (r2_eq (.str (n := 0) (tx.sub (fun c hc => List.mem_of_mem_take hc) (by rw [List.length_take]; omega)).ok) (.str (n := 0) (by decide +kernel))))) (by rw [eqD_str]; exact decide_eq_decide.mpr (word_inj (a := l.take 1) (b := [45])))
  refine sd_seq (Γ1 := [.fz (.str (word l)), .fz (.str (word (figs l))), .no, .no]) (sd_set 1 (ed_if (t1 rfl) (fun h => ed_is (ed_sl (ed_fz 0 rfl) (eo_some (ed_int 1)) eo_none (rs_str wl)) (congrArg D.str (show _ = word (figs l) by rw [show figs l = l.drop 1 from if_pos (of_decide_eq_true h)]; exact cut_from l 1))) fun h => ed_is (ed_fz 0 rfl) (by rw [figs_pos (of_decide_eq_false h)]))) ?_
  let Γ1 : Gam := [.fz (.str (word l)), .fz (.str (word (figs l))), .no, .no]
  have e1 : Et K (tTest (tOp (rEqD K) (tVar 1) (tC (.str "")))) Γ1 (decide (figs l = [])) := et_is (et_test (ed_op (ed_fz 1 rfl) (ed_str _) (r2_eq (.str (n := 0) fx.ok) (.str (n := 0) (by decide +kernel))))) (by rw [eqD_str]; exact decide_eq_decide.mpr (word_inj (a := figs l) (b := [])))
  have e2 : Et K (tTest (tOp (rI0 fun i j => .bl (decide (j < i))) (tCB (rLenA K) (tCons (tVar 1) tNil)) (tC (.int 60)))) Γ1 (decide (60 < (figs l).length)) := et_is (et_test (ed_op (ed_is (ed_cb (ea_cons (ed_fz 1 rfl) ea_nil) (rc_lenS fx.wl)) (congrArg D.int (by rw [word_len]))) (ed_int 60) r2_gt)) (decide_eq_decide.mpr (by omega))
  have e3 : Et K (tTest (tOp (rI0 fun i j => .bl (decide (j < i))) (tCB (rLenA K) (tCons (tLc (iStr (tVar 1)) (gName 2) (tTest (tOp (fun x y H Q => ∃ (c : Nat) (z : Str), x = .str ⟨#[c]⟩ ∧ y = .str z ∧ Q (.bl (!decide (c ∈ z.cps.toList))) H) (tVar 2) (tC (.str "0123456789")))) (tVar 2) [2]) tNil)) (tC (.int 0)))) Γ1 (decide (0 < ((figs l).filter fun c => !decide (c ∈ figL)).length)) := et_is (et_test (ed_op (ed_is (ed_cb (ea_cons (ed_lc (figs l) (fun c => .str (word [c])) (fun c => !decide (c ∈ figL)) (fun c => .str (word [c])) (Ei.is (ei_str (ed_fz 1 rfl)) (sgn_word _)) (by omega) fun c hc => ⟨[2], _, eg_name 2, by simp, et_is (et_test (ed_op (ed_fz 2 rfl) (ed_str _) (r2_notIn (c := c)))) (congrArg (fun m => !decide (c ∈ m)) figT_list), fun _ => ed_fz 2 rfl⟩) ea_nil) rc_lenL) (congrArg D.int (by rw [List.length_map]))) (ed_int 0) r2_gt)) (decide_eq_decide.mpr (by omega))
  by_cases h1 : figs l = []
  · have hn : ¬ NumOk l := fun z => z.ne h1
    rw [show figD l = .non from if_neg hn]
    exact sd_stop (sd_ifT (et_orT (et_is e1 (decide_eq_true h1))) (sd_ret ed_non)) rfl
  by_cases h2 : 60 < (figs l).length
  · have hn : ¬ NumOk l := fun z => by have := z.hi; omega
    rw [show figD l = .non from if_neg hn]
    exact sd_stop (sd_ifT (et_orF (et_is e1 (decide_eq_false h1)) (et_orT (et_is e2 (decide_eq_true h2)))) (sd_ret ed_non)) rfl
  by_cases h3 : 0 < ((figs l).filter fun c => !decide (c ∈ figL)).length
  · have hn : ¬ NumOk l := fun z => by
      obtain ⟨c, hc⟩ := List.exists_mem_of_length_pos h3
      obtain ⟨m1, m2⟩ := List.mem_filter.mp hc
      have := z.dg c m1
      simp [this] at m2
    rw [show figD l = .non from if_neg hn]
    exact sd_stop (sd_ifT (et_orF (et_is e1 (decide_eq_false h1)) (et_orF (et_is e2 (decide_eq_false h2)) (et_is e3 (decide_eq_true h3)))) (sd_ret ed_non)) rfl
  refine sd_seq (sd_ifF (et_orF (et_is e1 (decide_eq_false h1)) (et_orF (et_is e2 (decide_eq_false h2)) (et_is e3 (decide_eq_false h3)))) sd_next) ?_
  have dg : ∀ c ∈ figs l, c ∈ figL := fun c hc => Classical.byContradiction fun z => h3 (List.length_pos_of_mem (List.mem_filter.mpr ⟨hc, by simp [z]⟩))
  have lp := List.length_pos_iff.mpr h1
  obtain ⟨c, r, e⟩ := List.exists_cons_of_ne_nil h1
  have f0 : Et K (tTest (tOp (rEqD K) (tOp (rIx K) (tVar 1) (tC (.int 0))) (tC (.str "0")))) Γ1 (decide (c = 48)) := et_is (et_test (ed_op (ed_op (ed_fz 1 rfl) (ed_int 0) (r2_ixS fx.wl (by rw [word_list, e]; exact atI_zero _ _))) (ed_str _) (r2_eq (.str (n := 0) (fx.sub (m := [c]) (fun x hx => by rw [List.mem_singleton.mp hx, e]; exact List.mem_cons_self) (by rw [e]; simp)).ok) (.str (n := 0) (by decide +kernel))))) (by rw [eqD_str]; exact decide_eq_decide.mpr ((word_inj (a := [c]) (b := [48])).trans (by simp)))
  have f1 : Et K (tTest (tOp (rNeD K) (tVar 0) (tC (.str "0")))) Γ1 (!decide (l = [48])) := et_is (et_test (ed_op (ed_fz 0 rfl) (ed_str _) (r2_ne (.str (n := 0) tx.ok) (.str (n := 0) (by decide +kernel))))) (by rw [eqD_str]; exact congrArg Bool.not (decide_eq_decide.mpr (word_inj (a := l) (b := [48]))))
  by_cases hh : c = 48 ∧ l ≠ [48]
  · have hn : ¬ NumOk l := fun z => z.hd ⟨by rw [e, hh.1]; rfl, hh.2⟩
    rw [show figD l = .non from if_neg hn]
    exact sd_stop (sd_ifT (et_andT (et_is f0 (decide_eq_true hh.1)) (et_is f1 (by rw [decide_eq_false hh.2]; rfl))) (sd_ret ed_non)) rfl
  have hn : NumOk l := ⟨lp, by omega, dg, fun z => hh ⟨by have := z.1; rw [e] at this; simpa using this, z.2⟩⟩
  rw [show figD l = .int (numV l) from if_pos hn]
  refine sd_seq (Γ1 := Γ1) (sd_ifF ?_ sd_next) ?_
  · by_cases h48 : c = 48
    · have hl : l = [48] := Classical.byContradiction fun z => hh ⟨h48, z⟩
      exact et_andT (et_is f0 (decide_eq_true h48)) (et_is f1 (by rw [decide_eq_true hl]; rfl))
    · exact et_andF (et_is f0 (decide_eq_false h48))
  let st : Nat → Gam := fun i => [.fz (.str (word l)), .fz (.str (word (figs l))), .no, .fz (.int ((NumText.digitsVal ((figs l).take i) : Nat) : Int))]
  refine sd_seq (Γ1 := st 0) (sd_set 3 (ed_is (ed_int 0) (by rw [List.take_zero]; rfl))) ?_
  refine sd_seq (Γ1 := st (figs l).length) (sd_for (Ei.is (ei_str (ed_fz 1 rfl)) (sgn_word _)) (loopF_ix (figs l) (fun c => D.str (word [c])) st fun i hi => ?_)) ?_
  · have hm := List.getElem_mem hi
    have hc := mem_fig.mp (dg _ hm)
    have sub : NumText.AllDigits ((figs l).take i) := fun x hx => mem_fig.mp (dg x (List.mem_of_mem_take hx))
    have lt := dv_lt sub
    have lt2 : NumText.digitsVal ((figs l).take i) < 10 ^ 60 := Nat.lt_of_lt_of_le lt (Nat.pow_le_pow_right (by decide) (by rw [List.length_take]; omega))
    have e1 : (figs l).take (i + 1) = (figs l).take i ++ [(figs l)[i]] := by rw [List.take_add_one, List.getElem?_eq_getElem hi]; rfl
    refine ⟨[2], _, eg_name 2, Sd.lpLe (Γ1 := [.fz (.str (word l)), .fz (.str (word (figs l))), .fz (.str (word [(figs l)[i]])), .fz (.int ((NumText.digitsVal ((figs l).take (i + 1)) : Nat) : Int))]) (Sd.toLp (sd_set 3 (ed_is (ed_op (ed_op (ed_int 10) (ed_fz 3 rfl) (r2_mulI (CBig.of (a := 4) (b := 200) (by decide) (by rw [Int.natAbs_natCast]; omega) (by decide) (by decide) (by decide)))) (ed_index (ed_str _) (ed_fz 2 rfl) (idx_fig _ (dg _ hm))) r2_addI) (congrArg D.int ?_)))) ?_⟩
    · rw [e1, NumText.digitsVal_snoc]
      push_cast
      omega
    · exact .cons (.inr rfl) (.cons (.inr rfl) (.cons (.inl rfl) (.cons (.inr rfl) .nil)))
  · refine sd_ret (ed_if (t1 rfl) (fun h => ed_is (ed_op (ed_int 0) (ed_fz 3 rfl) r2_subI) ?_) fun h => ed_is (ed_fz 3 rfl) ?_)
    · rw [List.take_length, show numV l = -((NumText.digitsVal (figs l) : Nat) : Int) from if_pos (of_decide_eq_true h)]
      exact congrArg D.int (by omega)
    · rw [List.take_length, show numV l = ((NumText.digitsVal (figs l) : Nat) : Int) from if_neg (of_decide_eq_false h)]
def optD : Option (Int × Int) → D
  | none => .non
  | some p => sh p
def Srh : List D → D → Prop := fun ds d => ∃ o, ds = [o] ∧ Rdb o ∧ d = optD (rdD o)
theorem isNon_fig (l : List Nat) : isNon (figD l) = decide (¬ NumOk l) := by
  unfold figD
  by_cases h : NumOk l
  · rw [if_pos h, decide_eq_false (fun z => z h)]; rfl
  · rw [if_neg h, decide_eq_true h]; rfl
theorem ok_read_here (T : Tx K mg a_WeighError a_Nought a_NoText a_NoRow a_NoMachine a_NoWord a_OtherSigns a_TooMany) (c__law_figures : Cl P w K mg base CX0 1 "_law_figures" (spR K Sfg)) (c__law_common : Cl P w K mg base CX0 1 "_law_common" (spR K Sdiv)) : Cl P w K mg base CX0 2 "_law_read_here" (spR K Srh) := by
  refine clR T.d__law_read_here sc_law_read_here (fun ds d h => by obtain ⟨_, rfl, _⟩ := h; rfl) fun f cdv A outer s H E hr => ?_
  refine ⟨_, (pss_cons (ps_if (PW.pt (pw_or (pt_not (pt_val (pe_callB call_isi (by rfl) T.n_isinstance bt_isinstance (pa_cons (pv 0) (pa_cons (pe_bltn (v := .ty "str") (by rfl) T.n_str bt_str rfl) pa_nil))))) (pw_or1 (pt_cmpR op_gt (pe_m1 PySem.F.slot_str_count PySem.F.type_str_count mt_count (pv 0) pe_str) pe_int (nomark _)))))
  (pss_one (ps_ret pe_non))
  pss_nil)
  (pss_cons (ps_set (i := 1) sc_law_read_here.nd rfl (by first | exact Or.inl rfl | exact Or.inr rfl) (pe_split (pv 0) pe_str))
  (pss_cons (ps_set (i := 2) sc_law_read_here.nd rfl (by first | exact Or.inl rfl | exact Or.inr rfl) (pcl c__law_figures hr (by decide) rfl (pa_cons (pe_ix ix_seq (pv 1) pe_int (fun _ _ => rfl)) pa_nil)))
  (pss_cons (ps_if (PW.pt (pw_or (pt_cmp (pc_isN (pv 2)) rfl) (pw_or1 (pt_cmpR (op_eqD hr.units) (pe_callB callLen (by rfl) T.n_len bt_len (pa_cons (pv 1) pa_nil)) pe_int (nomark _)))))
  (pss_one (ps_ret (pe_ifExp (pt_cmp (pc_isN (pv 2)) rfl) pe_non (pe_tup (pa_cons (pv 2) (pa_cons pe_int pa_nil))))))
  pss_nil)
  (pss_cons (ps_set (i := 3) sc_law_read_here.nd rfl (by first | exact Or.inl rfl | exact Or.inr rfl) (pcl c__law_figures hr (by decide) rfl (pa_cons (pe_ix ix_seq (pv 1) pe_int (fun _ _ => rfl)) pa_nil)))
  (pss_cons (ps_if (PW.pt (pw_or (pt_cmp (pc_isN (pv 3)) rfl) (pw_or (pt_cmpR opLt (pv 3) pe_int (nomark _)) (pw_or1 (pt_cmpR op_gt (pcl c__law_common hr (by decide) rfl (pa_cons (pe_callB call_abs (by rfl) T.n_abs bt_abs (pa_cons (pv 2) pa_nil)) (pa_cons (pv 3) pa_nil))) pe_int (nomark _))))))
  (pss_one (ps_ret pe_non))
  pss_nil)
  (pss_one (ps_ret (pe_tup (pa_cons (pv 2) (pa_cons (pv 3) pa_nil))))))))))), fun ds d h => ?_⟩
  obtain ⟨o, rfl, hb, rfl⟩ := h
  rcases hb with ⟨l, rfl, tx⟩ | ⟨U, hU, hk, hn⟩
  · rw [rdD_str]
    have wl := tx.wl
    have cn : ∀ {v : Bool}, decide (1 < ((spl l).length : Int) - 1) = v → Et K (tTest (tOp (rI0 fun i j => .bl (decide (j < i))) (tM1 (fun x xs H Q => ∃ a b, x = .str a ∧ xs = [.str b] ∧ Q (.int (Txt.count a b)) H) (tVar 0) (tC (.str "/"))) (tC (.int 1)))) [.fz (.str (word l)), .no, .no, .no] v := fun {v} hv => et_is (et_test (ed_op (ed_is (ed_count (ed_fz 0 rfl) (ed_str _)) (congrArg D.int (count_w l))) (ed_int 1) r2_gt)) hv
    have ist : Et K (tNot (tB (tCB (rIsi K) (tCons (tVar 0) (tCons (tC (.ty "str")) tNil))))) [.fz (.str (word l)), .no, .no, .no] false := et_nF (et_B (ed_cb (ea_cons (ed_fz 0 rfl) (ea_cons (ed_ty _) ea_nil)) (rc_isi rfl (by decide +kernel))))
    unfold rdQ
    match e : spl l with
    | [] => exact absurd e (spl_ne l)
    | [a] =>
      have ta : TxL a := tx.part (by rw [e]; exact List.mem_cons_self)
      refine sd_seq (sd_ifF (et_orF ist (cn (by rw [e]; rfl))) sd_next) ?_
      refine sd_seq (Γ1 := [.fz (.str (word l)), .fz (.lst [.str (word a)]), .no, .no]) (sd_set 1 (ed_is (ed_split (ed_fz 0 rfl) (ed_str _) (by decide) wl) (by rw [split_w, e]; rfl))) ?_
      refine sd_seq (Γ1 := [.fz (.str (word l)), .fz (.lst [.str (word a)]), .fz (figD a), .no]) (sd_set 2 (ed_call (ea_cons (ed_op (ed_fz 1 rfl) (ed_int 0) (r2_ixL rfl)) ea_nil) ⟨a, rfl, ta, rfl⟩)) ?_
      refine sd_stop (sd_ifT ?_ (sd_ret ?_)) rfl
      · cases hv : isNon (figD a) with
        | true => exact et_orT (et_is (et_isN (ed_fz 2 rfl)) hv)
        | false => exact et_orF (et_is (et_isN (ed_fz 2 rfl)) hv) (et_is (et_test (ed_op (ed_cb (ea_cons (ed_fz 1 rfl) ea_nil) rc_lenL) (ed_int 1) r2_eqI)) rfl)
      · show Ed K _ _ (optD (if NumOk a then some (numV a, (1 : Int)) else none))
        refine ed_if (et_is (et_isN (ed_fz 2 rfl)) (isNon_fig a)) (fun h => ?_) fun h => ?_
        · rw [if_neg (of_decide_eq_true h)]
          exact ed_non
        · have ha : NumOk a := Classical.not_not.mp (of_decide_eq_false h)
          rw [if_pos ha]
          exact ed_tup (ea_cons (ed_is (ed_fz 2 rfl) (show figD a = .int (numV a) from if_pos ha)) (ea_cons (ed_int 1) ea_nil))
    | [a, b] =>
      have ta : TxL a := tx.part (by rw [e]; exact List.mem_cons_self)
      have tb : TxL b := tx.part (by rw [e]; exact List.mem_cons_of_mem _ List.mem_cons_self)
      show Sd K E0 _ _ (.rt (optD (if NumOk a ∧ NumOk b ∧ 2 ≤ numV b ∧ Nat.gcd (numV a).natAbs (numV b).natAbs = 1 then some (numV a, numV b) else none)))
      refine sd_seq (sd_ifF (et_orF ist (cn (by rw [e]; rfl))) sd_next) ?_
      refine sd_seq (Γ1 := [.fz (.str (word l)), .fz (.lst [.str (word a), .str (word b)]), .no, .no]) (sd_set 1 (ed_is (ed_split (ed_fz 0 rfl) (ed_str _) (by decide) wl) (by rw [split_w, e]; rfl))) ?_
      refine sd_seq (Γ1 := [.fz (.str (word l)), .fz (.lst [.str (word a), .str (word b)]), .fz (figD a), .no]) (sd_set 2 (ed_call (ea_cons (ed_op (ed_fz 1 rfl) (ed_int 0) (r2_ixL rfl)) ea_nil) ⟨a, rfl, ta, rfl⟩)) ?_
      by_cases ha : NumOk a
      · have ea : figD a = .int (numV a) := if_pos ha
        have nn : isNon (figD a) = false := by rw [ea]; rfl
        refine sd_seq (sd_ifF (et_orF (et_is (et_isN (ed_fz 2 rfl)) nn) (et_is (et_test (ed_op (ed_cb (ea_cons (ed_fz 1 rfl) ea_nil) rc_lenL) (ed_int 1) r2_eqI)) rfl)) sd_next) ?_
        refine sd_seq (Γ1 := [.fz (.str (word l)), .fz (.lst [.str (word a), .str (word b)]), .fz (figD a), .fz (figD b)]) (sd_set 3 (ed_call (ea_cons (ed_op (ed_fz 1 rfl) (ed_int 1) (r2_ixL rfl)) ea_nil) ⟨b, rfl, tb, rfl⟩)) ?_
        rw [ea]
        by_cases hb : NumOk b
        · have eb : figD b = .int (numV b) := if_pos hb
          rw [eb]
          by_cases h2 : numV b < 2
          · rw [if_neg (fun z => by have := z.2.2.1; omega)]
            exact sd_stop (sd_ifT (et_orF (et_isN (d := .int (numV b)) (ed_fz 3 rfl)) (et_orT (et_is (et_test (ed_op (ed_fz 3 rfl) (ed_int 2) r2_ltI)) (decide_eq_true h2)))) (sd_ret ed_non)) rfl
          · have gg : Ed K (tCall (spR K Sdiv) [] E0 (tCons (tCB (fun xs H Q => ∃ i, xs = [.int i] ∧ Q (.int (if i < 0 then -i else i)) H) (tCons (tVar 2) tNil)) (tCons (tVar 3) tNil))) [.fz (.str (word l)), .fz (.lst [.str (word a), .str (word b)]), .fz (.int (numV a)), .fz (.int (numV b))] (.int (Nat.gcd (numV a).natAbs (numV b).natAbs : Nat)) := ed_call (ea_cons (ed_cb (ea_cons (ed_fz 2 rfl) ea_nil) rc_abs) (ea_cons (ed_fz 3 rfl) ea_nil)) ⟨(numV a).natAbs, (numV b).natAbs, by rw [show (((numV b).natAbs : Nat) : Int) = numV b by omega], rfl⟩
            have gp : 0 < Nat.gcd (numV a).natAbs (numV b).natAbs := Nat.gcd_pos_of_pos_right _ (by omega)
            by_cases hg : Nat.gcd (numV a).natAbs (numV b).natAbs = 1
            · rw [if_pos ⟨ha, hb, by omega, hg⟩]
              refine sd_seq (sd_ifF (et_orF (et_isN (d := .int (numV b)) (ed_fz 3 rfl)) (et_orF (et_is (et_test (ed_op (ed_fz 3 rfl) (ed_int 2) r2_ltI)) (decide_eq_false h2)) (et_is (et_test (ed_op gg (ed_int 1) r2_gt)) (decide_eq_false (by omega))))) sd_next) ?_
              exact sd_ret (ed_tup (ea_cons (ed_fz 2 rfl) (ea_cons (ed_fz 3 rfl) ea_nil)))
            · rw [if_neg (fun z => hg z.2.2.2)]
              exact sd_stop (sd_ifT (et_orF (et_isN (d := .int (numV b)) (ed_fz 3 rfl)) (et_orF (et_is (et_test (ed_op (ed_fz 3 rfl) (ed_int 2) r2_ltI)) (decide_eq_false h2)) (et_is (et_test (ed_op gg (ed_int 1) r2_gt)) (decide_eq_true (by omega))))) (sd_ret ed_non)) rfl
        · rw [if_neg (fun z => hb z.2.1)]
          exact sd_stop (sd_ifT (et_orT (et_is (et_isN (ed_fz 3 rfl)) (by rw [isNon_fig]; exact decide_eq_true hb))) (sd_ret ed_non)) rfl
      · rw [if_neg (fun z => ha z.1)]
        have nn : isNon (figD a) = true := by rw [isNon_fig]; exact decide_eq_true ha
        exact sd_stop (sd_ifT (et_orT (et_is (et_isN (ed_fz 2 rfl)) nn)) (sd_ret (ed_if (et_is (et_isN (ed_fz 2 rfl)) nn) (fun _ => ed_non) fun h => nomatch h))) rfl
    | a :: b :: c :: r =>
      exact sd_stop (sd_ifT (et_orF ist (cn (decide_eq_true (by rw [e]; simp; omega)))) (sd_ret ed_non)) rfl
  · rw [hn]
    exact sd_stop (sd_ifT (et_orT (et_nT (et_B (ed_cb (ea_cons (ed_fz 0 rfl) (ea_cons (ed_ty _) ea_nil)) (rc_isi hU hk))))) (sd_ret ed_non)) rfl

/-! ### told, changed, odd -/
def refT : D := .tup [.str "refused", .str "text"]
def tolD : Option (Int × Int) → D
  | none => refT
  | some p => sh p
def Stol : List D → D → Prop := fun ds d => ∃ o, ds = [o] ∧ Rdb o ∧ d = tolD (rdD o)
theorem ok_told (T : Tx K mg a_WeighError a_Nought a_NoText a_NoRow a_NoMachine a_NoWord a_OtherSigns a_TooMany) (c_read : Cl P w K mg base (L2.CX P w) 3 "read" (spX K Sread (Tread a_NoText))) (c_word : ClE P w K mg base 1 "_law_word_of" a_NoText refT) : Cl P w K mg base CX0 4 "_law_told" (spR K Stol) := by
  have hW := W1_ok c_word
  have hWm := c_word.mx
  refine clR T.d__law_told sc_law_told (fun ds d h => by obtain ⟨_, rfl, _⟩ := h; rfl) fun f cdv A outer s H E hr => ?_
  refine ⟨_, (pss_one (ps_try_as (i := 1) (Wout := fun _ _ _ _ => False) rfl rfl sc_law_told.nd rfl rfl ⟨rfl, by decide, .inl T.m_WeighError⟩ takes0 (fun W pn xe tk _ =>
  (pss_one (ps_ret (pclS c_read hr (by decide) rfl (fun σ => passAt tk σ) (pa_cons (pv 0) pa_nil)))))
  (fun a oe cls d pn hz hf => (pss_one (ps_ret (pe_callE hW hWm hr (by decide) hz hf rfl (pa_cons (pv 1) pa_nil))))))), fun ds d h => ?_⟩
  obtain ⟨o, rfl, hb, rfl⟩ := h
  cases e : rdD o with
  | none => exact sd_caught (Nat.le_of_ble_eq_true rfl) (fun W => sw_ret (xw_callS (ea_cons (ed_fz 0 rfl) ea_nil) ⟨o, rfl, hb, e, rfl⟩)) T.em_NoText W1_self
  | some p => exact sd_calm fun W => sd_ret (ed_callS (ea_cons (ed_fz 0 rfl) ea_nil) ⟨o, p, rfl, hb, e, rfl⟩)
theorem getD_at' {α : Type} {xs : List α} {j : Nat} {d : α} (h : j < xs.length) : xs.getD j d = xs[j] := by simp [List.getD, h]
def someL : List Nat := (List.range' 32 95).filter (fun c => c != 37) ++ [9, 10] ++ [48, 49, 50, 51, 52, 53, 54, 55, 56, 57, 47, 45, 43, 95, 48, 49, 50, 51, 52, 53, 54, 55, 56, 57, 47, 45, 43, 95, 48, 49, 50, 51, 52, 53, 54, 55, 56, 57, 47, 45, 43, 95, 48, 49, 50, 51, 52, 53, 54, 55, 56, 57, 47, 45, 43, 95, 48, 49, 50, 51, 52, 53, 54, 55, 56, 57, 47, 45, 43, 95]
theorem someL_len : someL.length = 166 := by decide +kernel
theorem someL_lo : ∀ c ∈ someL, c < 128 := by decide +kernel
def atC (l : List Nat) (c : Int) : Nat := (c / 3 % ((l.length : Int) + 1)).toNat
def sgC (c : Int) : Nat := someL.getD (c / 7 % 166).toNat 0
def chL (l : List Nat) (c : Int) : List Nat :=
  if c % 3 = 0 then l.take (atC l c) ++ [sgC c] ++ l.drop (atC l c)
  else if c % 3 = 1 then l.take (atC l c) ++ l.drop (atC l c + 1)
  else l.take (atC l c) ++ [sgC c] ++ l.drop (atC l c + 1)
theorem sgC_at (c : Int) : atI someL (c / 7 % 166) = some (sgC c) ∧ sgC c < 128 := by
  have h1 : 0 ≤ c / 7 % 166 := Int.emod_nonneg _ (by decide)
  have h2 : c / 7 % 166 < 166 := Int.emod_lt_of_pos _ (by decide)
  have lt : (c / 7 % 166).toNat < someL.length := by rw [someL_len]; omega
  unfold sgC
  constructor
  · conv => lhs; rw [show c / 7 % 166 = ((c / 7 % 166).toNat : Int) by omega]
    rw [atI_nat' lt, getD_at' lt]
  · rw [getD_at' lt]; exact someL_lo _ (List.getElem_mem _)
theorem chL_tx {l : List Nat} (h : TxL l) (hl : l.length ≤ 150) (c : Int) : TxL (chL l c) := by
  have s := (sgC_at c).2
  have tk : ∀ k, ∀ x ∈ l.take k, x < 128 := fun k x hx => h.lo x (List.mem_of_mem_take hx)
  have dr : ∀ k, ∀ x ∈ l.drop k, x < 128 := fun k x hx => h.lo x (List.mem_of_mem_drop hx)
  unfold chL
  split
  · refine ⟨fun x hx => ?_, by simp only [List.length_append, List.length_take, List.length_drop, List.length_singleton]; omega⟩
    simp only [List.mem_append, List.mem_singleton] at hx
    rcases hx with (z | z) | z
    · exact tk _ x z
    · omega
    · exact dr _ x z
  · split
    · refine ⟨fun x hx => ?_, by simp only [List.length_append, List.length_take, List.length_drop]; omega⟩
      rcases List.mem_append.mp hx with z | z
      · exact tk _ x z
      · exact dr _ x z
    · refine ⟨fun x hx => ?_, by simp only [List.length_append, List.length_take, List.length_drop, List.length_singleton]; omega⟩
      simp only [List.mem_append, List.mem_singleton] at hx
      rcases hx with (z | z) | z
      · exact tk _ x z
      · omega
      · exact dr _ x z
def Sch : List D → D → Prop := fun ds d => ∃ (l : List Nat) (c : Int), ds = [.str (word l), .int c] ∧ TxL l ∧ l.length ≤ 150 ∧ d = .str (word (chL l c))
theorem ok_changed (T : Tx K mg a_WeighError a_Nought a_NoText a_NoRow a_NoMachine a_NoWord a_OtherSigns a_TooMany) : Cl P w K mg base CX0 1 "_law_changed" (spR K Sch) := by
  refine clR T.d__law_changed sc_law_changed (fun ds d h => by obtain ⟨_, _, rfl, _⟩ := h; rfl) fun f cdv A outer s H E hr => ?_
  refine ⟨_, (pss_cons (ps_set (i := 2) sc_law_changed.nd rfl (by first | exact Or.inl rfl | exact Or.inr rfl) pe_str)
  (pss_cons (ps_set (i := 2) sc_law_changed.nd rfl (by first | exact Or.inl rfl | exact Or.inr rfl) (pe_op opAdd (pe_op opAdd (pv 2) pe_str) (pe_op op_mulS pe_str pe_int)))
  (pss_cons (ps_set (i := 3) sc_law_changed.nd rfl (by first | exact Or.inl rfl | exact Or.inr rfl) (pe_op op_mod (pe_op opFd (pv 1) pe_int) (pe_op opAdd (pe_callB callLen (by rfl) T.n_len bt_len (pa_cons (pv 0) pa_nil)) pe_int)))
  (pss_cons (ps_set (i := 4) sc_law_changed.nd rfl (by first | exact Or.inl rfl | exact Or.inr rfl) (pe_ix ix_seq (pv 2) (pe_op op_mod (pe_op opFd (pv 1) pe_int) (pe_callB callLen (by rfl) T.n_len bt_len (pa_cons (pv 2) pa_nil))) (fun _ _ => rfl)))
  (pss_cons (ps_if (pt_cmpR (op_eqD hr.units) (pe_op op_mod (pv 1) pe_int) pe_int (nomark _))
  (pss_one (ps_ret (pe_op opAdd (pe_op opAdd (pe_slice slA (pv 0) po_none (po_some (pv 3))) (pv 4)) (pe_slice slA (pv 0) (po_some (pv 3)) po_none))))
  pss_nil)
  (pss_cons (ps_if (pt_cmpR (op_eqD hr.units) (pe_op op_mod (pv 1) pe_int) pe_int (nomark _))
  (pss_one (ps_ret (pe_op opAdd (pe_slice slA (pv 0) po_none (po_some (pv 3))) (pe_slice slA (pv 0) (po_some (pe_op opAdd (pv 3) pe_int)) po_none))))
  pss_nil)
  (pss_one (ps_ret (pe_op opAdd (pe_op opAdd (pe_slice slA (pv 0) po_none (po_some (pv 3))) (pv 4)) (pe_slice slA (pv 0) (po_some (pe_op opAdd (pv 3) pe_int)) po_none)))))))))), fun ds d h => ?_⟩
  obtain ⟨l, c, rfl, tx, hl, rfl⟩ := h
  have wl := tx.wl
  refine sd_seq (Γ1 := [.fz (.str (word l)), .fz (.int c), .fz (.str (word ((List.range' 32 95).filter (fun c => c != 37)))), .no, .no]) (sd_set 2 (ed_is (ed_str _) (congrArg D.str (by decide +kernel)))) ?_
  refine sd_seq (Γ1 := [.fz (.str (word l)), .fz (.int c), .fz (.str (word someL)), .no, .no]) (sd_set 2 (ed_is (ed_op (ed_op (ed_fz 2 rfl) (ed_str _) (r2_addS (Nat.le_of_ble_eq_true (by decide +kernel)))) (ed_op (ed_str _) (ed_int 5) (r2_mulS (by unfold MulOk; decide +kernel))) (r2_addS (Nat.le_of_ble_eq_true (by decide +kernel)))) (congrArg D.str (by decide +kernel)))) ?_
  have h1 : 0 ≤ c / 3 % ((l.length : Int) + 1) := Int.emod_nonneg _ (by omega)
  have h2 : c / 3 % ((l.length : Int) + 1) < (l.length : Int) + 1 := Int.emod_lt_of_pos _ (by omega)
  have ha : c / 3 % ((l.length : Int) + 1) = (atC l c : Int) := by unfold atC; omega
  have al : atC l c ≤ l.length := by unfold atC; omega
  refine sd_seq (Γ1 := [.fz (.str (word l)), .fz (.int c), .fz (.str (word someL)), .fz (.int (atC l c : Nat)), .no]) (sd_set 3 (ed_is (ed_op (ed_op (ed_fz 1 rfl) (ed_int 3) (r2_fdP (by decide))) (ed_op (ed_is (ed_cb (ea_cons (ed_fz 0 rfl) ea_nil) (rc_lenS wl)) (congrArg D.int (by rw [word_len]))) (ed_int 1) r2_addI) (r2_mod (by omega))) (congrArg D.int ha))) ?_
  refine sd_seq (Γ1 := [.fz (.str (word l)), .fz (.int c), .fz (.str (word someL)), .fz (.int (atC l c : Nat)), .fz (.str (word [sgC c]))]) (sd_set 4 (ed_op (ed_fz 2 rfl) (ed_op (ed_op (ed_fz 1 rfl) (ed_int 7) (r2_fdP (by decide))) (ed_is (ed_cb (ea_cons (ed_fz 2 rfl) ea_nil) (rc_lenS (by rw [word_len, someL_len]; decide))) (congrArg D.int (by rw [word_len, someL_len]))) (r2_mod (by decide))) (r2_ixS (by rw [word_len, someL_len]; decide) (by rw [word_list]; exact (sgC_at c).1)))) ?_
  let Γ1 : Gam := [.fz (.str (word l)), .fz (.int c), .fz (.str (word someL)), .fz (.int (atC l c : Nat)), .fz (.str (word [sgC c]))]
  have t3 : ∀ k : Int, Et K (tTest (tOp (rEqD K) (tOp (rI (fun _ j => 0 < j) fun i j => .int (i % j)) (tVar 1) (tC (.int 3))) (tC (.int k)))) Γ1 (decide (c % 3 = k)) := fun k => et_test (ed_op (ed_op (ed_fz 1 rfl) (ed_int 3) (r2_mod (by decide))) (ed_int k) r2_eqI)
  have tk : Ed K (tSl (rSlA K) (tVar 0) tNoPart (tPart (tVar 3))) Γ1 (.str (word (l.take (atC l c)))) := ed_is (ed_sl (ed_fz 0 rfl) eo_none (eo_some (ed_fz 3 rfl)) (rs_str wl)) (congrArg D.str (cut_to l (atC l c)))
  have d0 : Ed K (tSl (rSlA K) (tVar 0) (tPart (tVar 3)) tNoPart) Γ1 (.str (word (l.drop (atC l c)))) := ed_is (ed_sl (ed_fz 0 rfl) (eo_some (ed_fz 3 rfl)) eo_none (rs_str wl)) (congrArg D.str (cut_from l (atC l c)))
  have d1 : Ed K (tSl (rSlA K) (tVar 0) (tPart (tOp rAddA (tVar 3) (tC (.int 1)))) tNoPart) Γ1 (.str (word (l.drop (atC l c + 1)))) := ed_is (ed_sl (ed_fz 0 rfl) (eo_some (ed_is (ed_op (ed_fz 3 rfl) (ed_int 1) r2_addI) (show _ = D.int ((atC l c + 1 : Nat) : Int) from congrArg D.int (by push_cast; rfl)))) eo_none (rs_str wl)) (congrArg D.str (cut_from l (atC l c + 1)))
  have cat : ∀ {ta tb : TE} {a b : List Nat}, a.length ≤ 400 → b.length ≤ 400 → Ed K ta Γ1 (.str (word a)) → Ed K tb Γ1 (.str (word b)) → Ed K (tOp rAddA ta tb) Γ1 (.str (word (a ++ b))) := fun {ta tb a b} la lb h1 h2 => ed_is (ed_op h1 h2 (r2_addS (by rw [word_len, word_len]; omega))) (congrArg D.str (word_add a b))
  have lt : ∀ k, (l.take k).length ≤ 200 := fun k => by rw [List.length_take]; omega
  have ld : ∀ k, (l.drop k).length ≤ 200 := fun k => by rw [List.length_drop]; omega
  have l1 : (l.take (atC l c) ++ [sgC c]).length ≤ 400 := by have := lt (atC l c); rw [List.length_append, List.length_singleton]; omega
  have tl : ∀ k, (l.take k).length ≤ 400 := fun k => Nat.le_trans (lt k) (by decide)
  have dl : ∀ k, (l.drop k).length ≤ 400 := fun k => Nat.le_trans (ld k) (by decide)
  by_cases c0 : c % 3 = 0
  · rw [show chL l c = l.take (atC l c) ++ [sgC c] ++ l.drop (atC l c) from if_pos c0]
    exact sd_stop (sd_ifT (et_is (t3 0) (decide_eq_true c0)) (sd_ret (cat l1 (dl _) (cat (tl _) (Nat.le_of_ble_eq_true rfl) tk (ed_fz 4 rfl)) d0))) rfl
  · refine sd_seq (sd_ifF (et_is (t3 0) (decide_eq_false c0)) sd_next) ?_
    by_cases c1 : c % 3 = 1
    · rw [show chL l c = l.take (atC l c) ++ l.drop (atC l c + 1) from (if_neg c0).trans (if_pos c1)]
      exact sd_stop (sd_ifT (et_is (t3 1) (decide_eq_true c1)) (sd_ret (cat (tl _) (dl _) tk d1))) rfl
    · rw [show chL l c = l.take (atC l c) ++ [sgC c] ++ l.drop (atC l c + 1) from (if_neg c0).trans (if_neg c1)]
      refine sd_seq (sd_ifF (et_is (t3 1) (decide_eq_false c1)) sd_next) ?_
      exact sd_ret (cat l1 (dl _) (cat (tl _) (Nat.le_of_ble_eq_true rfl) tk (ed_fz 4 rfl)) d1)
theorem rdb_str (s : Str) (h : (s.cps.toList.all (fun c => decide (c < 128)) && decide (s.cps.toList.length ≤ 200)) = true) : Rdb (.str s) := by
  obtain ⟨a, b⟩ := (Bool.and_eq_true _ _).mp h
  exact .inl ⟨s.cps.toList, congrArg D.str (by simp [word]), fun c hc => of_decide_eq_true (List.all_eq_true.mp a c hc), of_decide_eq_true b⟩
def odd1 : List D := [.str "", .str "/", .str "-0", .str "1/1", .str "2/4", .str "0/3", .str "3/-4", .str "--1", .non, .int 5, .tup [.int 1, .int 2], .lst [.str "1"], .str (Txt.mul "1" 61), .str ("1/" ++ Txt.mul "3" 61)]
def odd2 : List D := [.str "+3", .str "1_0", .str " 7", .str "7 ", .str "1/+2", .str "-1/-2", .str "1 / 2", .str "0x1", .str "1e3", .str "1.0"]
theorem odd_rdb : ∀ d ∈ odd1 ++ odd2, Rdb d := by
  intro d hd
  unfold odd1 odd2 at hd
  simp only [List.cons_append, List.nil_append, List.mem_cons, List.not_mem_nil, or_false] at hd
  rcases hd with rfl | rfl | rfl | rfl | rfl | rfl | rfl | rfl | rfl | rfl | rfl | rfl | rfl | rfl | rfl | rfl | rfl | rfl | rfl | rfl | rfl | rfl | rfl | rfl
  all_goals first
    | exact rdb_str _ (by decide +kernel)
    | exact .inr ⟨_, rfl, by decide +kernel, rfl⟩
def oddD (c : Int) : D := (odd1 ++ odd2).getD (c % 24).toNat .non
theorem odd_at (c : Int) : atI (odd1 ++ odd2) (c % 24) = some (oddD c) ∧ Rdb (oddD c) := by
  have h1 : 0 ≤ c % 24 := Int.emod_nonneg _ (by decide)
  have h2 : c % 24 < 24 := Int.emod_lt_of_pos _ (by decide)
  have lt : (c % 24).toNat < (odd1 ++ odd2).length := by show _ < 24; omega
  unfold oddD
  constructor
  · conv => lhs; rw [show c % 24 = ((c % 24).toNat : Int) by omega]
    rw [atI_nat' lt, getD_at' lt]
  · rw [getD_at' lt]; exact odd_rdb _ (List.getElem_mem _)
def Sod : List D → D → Prop := fun ds d => ∃ c : Int, ds = [.int c] ∧ d = oddD c
theorem ok_odd (T : Tx K mg a_WeighError a_Nought a_NoText a_NoRow a_NoMachine a_NoWord a_OtherSigns a_TooMany) : Cl P w K mg base CX0 1 "_law_odd" (spR K Sod) := by
  refine clR T.d__law_odd sc_law_odd (fun ds d h => by obtain ⟨_, rfl, _⟩ := h; rfl) fun f cdv A outer s H E hr => ?_
  refine ⟨_, (pss_cons (ps_set (i := 1) sc_law_odd.nd rfl (by first | exact Or.inl rfl | exact Or.inr rfl) (pe_lst (pa_cons pe_str (pa_cons pe_str (pa_cons pe_str (pa_cons pe_str (pa_cons pe_str (pa_cons pe_str (pa_cons pe_str (pa_cons pe_str (pa_cons pe_non (pa_cons pe_int (pa_cons (pe_tup (pa_cons pe_int (pa_cons pe_int pa_nil))) (pa_cons (pe_lst (pa_cons pe_str pa_nil)) (pa_cons (pe_op op_mulS pe_str pe_int) (pa_cons (pe_op opAdd pe_str (pe_op op_mulS pe_str pe_int)) pa_nil))))))))))))))))
  (pss_cons (ps_set (i := 1) sc_law_odd.nd rfl (by first | exact Or.inl rfl | exact Or.inr rfl) (pe_op opAdd (pv 1) (pe_lst (pa_cons pe_str (pa_cons pe_str (pa_cons pe_str (pa_cons pe_str (pa_cons pe_str (pa_cons pe_str (pa_cons pe_str (pa_cons pe_str (pa_cons pe_str (pa_cons pe_str pa_nil)))))))))))))
  (pss_one (ps_ret (pe_ix ix_seq (pv 1) (pe_op op_mod (pv 0) pe_int) (fun _ _ => rfl)))))), fun ds d h => ?_⟩
  obtain ⟨c, rfl, rfl⟩ := h
  refine sd_seq (Γ1 := [.fz (.int c), .fz (.lst odd1)]) (sd_set 1 (ed_lst (ea_cons (ed_str _) (ea_cons (ed_str _) (ea_cons (ed_str _) (ea_cons (ed_str _) (ea_cons (ed_str _) (ea_cons (ed_str _) (ea_cons (ed_str _) (ea_cons (ed_str _) (ea_cons ed_non (ea_cons (ed_int 5) (ea_cons (ed_tup (ea_cons (ed_int 1) (ea_cons (ed_int 2) ea_nil))) (ea_cons (ed_lst (ea_cons (ed_str _) ea_nil)) (ea_cons (ed_op (ed_str _) (ed_int 61) (r2_mulS (by unfold MulOk; decide +kernel))) (ea_cons (ed_op (ed_str _) (ed_op (ed_str _) (ed_int 61) (r2_mulS (by unfold MulOk; decide +kernel))) (r2_addS (Nat.le_of_ble_eq_true (by decide +kernel)))) ea_nil)))))))))))))))) ?_
  refine sd_seq (Γ1 := [.fz (.int c), .fz (.lst (odd1 ++ odd2))]) (sd_set 1 (ed_op (ed_fz 1 rfl) (ed_lst (ea_cons (ed_str _) (ea_cons (ed_str _) (ea_cons (ed_str _) (ea_cons (ed_str _) (ea_cons (ed_str _) (ea_cons (ed_str _) (ea_cons (ed_str _) (ea_cons (ed_str _) (ea_cons (ed_str _) (ea_cons (ed_str _) ea_nil))))))))))) (r2_addL (Nat.le_of_ble_eq_true rfl)))) ?_
  exact sd_ret (ed_op (ed_fz 1 rfl) (ed_op (ed_fz 0 rfl) (ed_int 24) (r2_mod (by decide))) (r2_ixL (odd_at c).1))

/-! ### k03 -/
theorem num_lt60 (c : Int) : (num c).natAbs < 10 ^ 60 := by
  unfold num
  split
  · omega
  · split
    · have h1 : 0 ≤ c / 5 % 5 := Int.emod_nonneg _ (by decide)
      have h2 : c / 5 % 5 < 5 := Int.emod_lt_of_pos _ (by decide)
      generalize c / 5 % 5 = j at h1 h2
      have : j = 0 ∨ j = 1 ∨ j = 2 ∨ j = 3 ∨ j = 4 := by omega
      rcases this with rfl | rfl | rfl | rfl | rfl <;> decide
    · have h1 : 0 ≤ c / 5 * 48271 ^ 12 % (2 * 10 ^ 60 - 1) := Int.emod_nonneg _ (by decide)
      have h2 : c / 5 * 48271 ^ 12 % (2 * 10 ^ 60 - 1) < 2 * 10 ^ 60 - 1 := Int.emod_lt_of_pos _ (by decide)
      generalize c / 5 * 48271 ^ 12 % (2 * 10 ^ 60 - 1) = j at h1 h2
      omega
theorem eqD_refT : eqD refT refT = true := by simp [refT, eqD, D.py, D.pyA, PyData.eqv, PyData.eqvAll]
theorem pl_refT : Pl 1 refT := .tup fun d hd => by
  rcases List.mem_cons.mp hd with h | h
  · subst h; exact .str (by decide +kernel)
  · rcases List.mem_cons.mp h with h | h
    · subst h; exact .str (by decide +kernel)
    · cases h
theorem rdQ_pos {l : List Nat} {p : Int × Int} (h : rdQ l = some p) : True := trivial
theorem ok_law {f : Addr} {fd : FuncData} (T : Tx K mg a_WeighError a_Nought a_NoText a_NoRow a_NoMachine a_NoWord a_OtherSigns a_TooMany) (F : Fun K "law" "law" s_law f fd) : FnOk P w K mg base CX0 12 f fd ["_law_script"] (spLaw K) := by
  have c_divisor := ok_divisor (P := P) (w := w) (base := base) T
  have c_is_whole := ok_is_whole (P := P) (w := w) (base := base) T
  have c_is_share := ok_is_share T c_is_whole c_divisor
  have c_written := ok_written (P := P) (w := w) (base := base) T
  have c_read := ok_read T (ok_number_in T) c_is_share c_written
  have c__law_cell_at := ok_cell_at (P := P) (w := w) (base := base) T
  have c__law_number := ok_number (P := P) (w := w) (base := base) T
  have c__law_whole := ok__law_whole (P := P) (w := w) (base := base) T
  have c__law_is := ok_lis T c__law_whole
  have c__law_common := ok_common (P := P) (w := w) (base := base) T
  have c__law_share := ok_lshare T c__law_common
  have c__law_read_here := ok_read_here T (ok_figures T) c__law_common
  have c__law_told := ok_told T c_read (ok_word_NoText T)
  have c__law_changed := ok_changed (P := P) (w := w) (base := base) T
  have c__law_odd := ok_odd (P := P) (w := w) (base := base) T
  refine fnLaw F sc_law rfl fun cdv A outer s H E hr => ?_
  refine ⟨_, (pss_cons (ps_set (i := 1) sc_law.nd rfl (by first | exact Or.inl rfl | exact Or.inr rfl) (pcl c__law_number hr (by decide) rfl (pa_cons (pcl c__law_cell_at hr (by decide) rfl (pa_cons (pv 0) (pa_cons pe_int pa_nil))) pa_nil)))
  (pss_cons (ps_set (i := 2) sc_law.nd rfl (by first | exact Or.inl rfl | exact Or.inr rfl) (pcl c__law_share hr (by decide) rfl (pa_cons (pv 1) (pa_cons (pe_callB (call_max2 rfl) (by rfl) T.n_max bt_max (pa_cons pe_int (pa_cons (pe_callB call_abs (by rfl) T.n_abs bt_abs (pa_cons (pcl c__law_number hr (by decide) rfl (pa_cons (pcl c__law_cell_at hr (by decide) rfl (pa_cons (pv 0) (pa_cons pe_int pa_nil))) pa_nil)) pa_nil)) pa_nil))) pa_nil))))
  (pss_cons (ps_set (i := 3) sc_law.nd rfl (by first | exact Or.inl rfl | exact Or.inr rfl) (pe_callTy call_str_int (by rfl) T.n_str bt_str (pa_cons (pe_ix ix_seq (pv 2) pe_int (fun _ _ => rfl)) pa_nil)))
  (pss_cons (ps_if (pt_cmpR op_gt (pe_ix ix_seq (pv 2) pe_int (fun _ _ => rfl)) pe_int (nomark _))
  (pss_one (ps_set (i := 3) sc_law.nd rfl (by first | exact Or.inl rfl | exact Or.inr rfl) (pe_op opAdd (pe_op opAdd (pv 3) pe_str) (pe_callTy call_str_int (by rfl) T.n_str bt_str (pa_cons (pe_ix ix_seq (pv 2) pe_int (fun _ _ => rfl)) pa_nil)))))
  pss_nil)
  (pss_cons (ps_set (i := 4) sc_law.nd rfl (by first | exact Or.inl rfl | exact Or.inr rfl) (pcl c_written hr (by decide) rfl (pa_cons (pv 2) pa_nil)))
  (pss_cons (ps_if (PW.pt (pw_or (pt_not (pt_val (pe_callB call_isi (by rfl) T.n_isinstance bt_isinstance (pa_cons (pv 4) (pa_cons (pe_bltn (v := .ty "str") (by rfl) T.n_str bt_str rfl) pa_nil))))) (pw_or (pt_cmpR (op_neD hr.units) (pv 4) (pv 3) (nomark _)) (pw_or1 (pt_not (pt_val (pcl c__law_is hr (by decide) rfl (pa_cons (pclX c_read hr (by decide) rfl (pa_cons (pv 3) pa_nil)) (pa_cons (pv 2) pa_nil)))))))))
  (pss_one (ps_ret pe_bl))
  pss_nil)
  (pss_cons (ps_set (i := 5) sc_law.nd rfl (by first | exact Or.inl rfl | exact Or.inr rfl) (pcl c__law_cell_at hr (by decide) rfl (pa_cons (pv 0) (pa_cons pe_int pa_nil))))
  (pss_cons (ps_for PassesOwn.never rfl (pi_list (pe_lst (pa_cons (pcl c__law_changed hr (by decide) rfl (pa_cons (pv 3) (pa_cons (pv 5) pa_nil))) (pa_cons (pcl c__law_odd hr (by decide) rfl (pa_cons (pv 5) pa_nil)) (pa_cons (pv 3) pa_nil))))) (pg_name (i := 6) sc_law.nd rfl (by first | exact Or.inl rfl | exact Or.inr rfl))
  (pss_cons (ps_set (i := 7) sc_law.nd rfl (by first | exact Or.inl rfl | exact Or.inr rfl) (pcl c__law_read_here hr (by decide) rfl (pa_cons (pv 6) pa_nil)))
  (pss_cons (ps_set (i := 8) sc_law.nd rfl (by first | exact Or.inl rfl | exact Or.inr rfl) (pcl c__law_told hr (by decide) rfl (pa_cons (pv 6) pa_nil)))
  (pss_one (ps_if (PW.pt (pw_or (PW.pt (pw_and (pt_cmp (pc_isN (pv 7)) rfl) (pw_and1 (pt_cmpR (op_neD hr.units) (pv 8) (pe_tup (pa_cons pe_str (pa_cons pe_str pa_nil))) (nomark _))))) (pw_or1 (PW.pt (pw_and (pt_cmp (pc_notN (pv 7)) rfl) (pw_and1 (pt_not (pt_val (pcl c__law_is hr (by decide) rfl (pa_cons (pv 8) (pa_cons (pv 7) pa_nil)))))))))))
  (pss_one (ps_ret pe_bl))
  pss_nil)))))
  (pss_one (ps_ret pe_bl)))))))))), fun ns hl hb => ?_⟩
  have cell : ∀ {Γ : Gam} (k : Nat), Γ[0]? = some (.fz (.scr ns)) → Ed K (tCall (spR K Sca) [] E0 (tCons (tVar 0) (tCons (tC (.int k)) tNil))) Γ (.int (cellAt ns k)) := fun {Γ} k h => ed_call (ea_cons (ed_fz 0 h) (ea_cons (ed_int k) ea_nil)) ⟨ns, k, rfl, rfl⟩
  have numb : ∀ {Γ : Gam} (k : Nat), Γ[0]? = some (.fz (.scr ns)) → Ed K (tCall (spR K Snu) [] E0 (tCons (tCall (spR K Sca) [] E0 (tCons (tVar 0) (tCons (tC (.int k)) tNil))) tNil)) Γ (.int (num (cellAt ns k))) := fun {Γ} k h => ed_call (ea_cons (cell k h) ea_nil) ⟨_, rfl, sm_at hb k, rfl⟩
  let t := num (cellAt ns 0)
  let b : Int := max 1 ((num (cellAt ns 1)).natAbs : Int)
  have ht : t.natAbs < 10 ^ 60 := num_lt60 _
  have hbb := num_lt60 (cellAt ns 1)
  have b0 : 0 < b := by show 0 < max 1 ((num (cellAt ns 1)).natAbs : Int); omega
  have bl : b.natAbs < 10 ^ 60 := by show (max 1 ((num (cellAt ns 1)).natAbs : Int)).natAbs < 10 ^ 60; omega
  let p := mkS t b
  have pos : 0 < p.2 := mkS_pos (by omega)
  have le := mkS_le (t := t) (b := b) (by omega)
  have p1 : p.1.natAbs < 10 ^ 60 := Nat.lt_of_le_of_lt le.1 ht
  have p2 : p.2.natAbs < 10 ^ 60 := Nat.lt_of_le_of_lt le.2 bl
  have cop : Nat.gcd p.1.natAbs p.2.natAbs = 1 := mkS_cop (by omega)
  let tx := wrT p
  have o1 := (numT_ok p1).1.len
  have o2 := (numT_ok p2).1.len
  have wl : tx.length ≤ 150 := by
    show (wrT p).length ≤ 150
    unfold wrT
    split
    · omega
    · rw [List.length_append, List.length_cons]; omega
  have tt : TxL tx := ⟨fun c hc => by
    have a1 := numT_tx p1
    have a2 := numT_tx p2
    have hc' : c ∈ wrT p := hc
    unfold wrT at hc'
    split at hc'
    · exact a1.lo c hc'
    · rcases List.mem_append.mp hc' with z | z
      · exact a1.lo c z
      · rcases List.mem_cons.mp z with rfl | z
        · decide
        · exact a2.lo c z, by omega⟩
  have rd : rdQ tx = some p := rd_wr p1 p2 pos cop
  let Γ0 : Sl → Sl → Sl → Sl → Sl → Sl → Sl → Gam := fun pa te fo ce ot du tl => [.fz (.scr ns), .fz (.int t), pa, te, fo, ce, ot, du, tl]
  refine sd_seq (Γ1 := Γ0 .no .no .no .no .no .no .no) (sd_set 1 (numb 0 rfl)) ?_
  refine sd_seq (Γ1 := Γ0 (.fz (sh p)) .no .no .no .no .no .no) (sd_set 2 (ed_call (ea_cons (ed_fz 1 rfl) (ea_cons (ed_cb (ea_cons (ed_int 1) (ea_cons (ed_cb (ea_cons (numb 1 rfl) ea_nil) rc_abs) ea_nil)) rc_max2) ea_nil)) ⟨t, b, rfl, b0, Nat.lt_of_le_of_lt (log2_mono (Nat.le_of_lt bl)) (by decide +kernel), rfl⟩)) ?_
  refine sd_seq (Γ1 := Γ0 (.fz (sh p)) (.fz (.str (word (numT p.1)))) .no .no .no .no .no) (sd_set 3 (ed_is (ed_cb (ea_cons (ed_op (ed_fz 2 rfl) (ed_int 0) (r2_ixT rfl)) ea_nil) (rc_strI (log60 p1))) (congrArg D.str (str_int p.1)))) ?_
  have g1 : Et K (tTest (tOp (rI0 fun i j => .bl (decide (j < i))) (tOp (rIx K) (tVar 2) (tC (.int 1))) (tC (.int 1)))) (Γ0 (.fz (sh p)) (.fz (.str (word (numT p.1)))) .no .no .no .no .no) (decide (1 < p.2)) := et_test (ed_op (ed_op (ed_fz 2 rfl) (ed_int 1) (r2_ixT rfl)) (ed_int 1) r2_gt)
  refine sd_seq (Γ1 := Γ0 (.fz (sh p)) (.fz (.str (word tx))) .no .no .no .no .no) (sd_if g1 (fun h => ?_) fun h => ?_) ?_
  · have h1 : ¬ p.2 = 1 := by have := of_decide_eq_true h; omega
    refine sd_is (sd_set 3 (ed_is (ed_op (ed_op (ed_fz 3 rfl) (ed_is (ed_str _) (show _ = D.str (word [47]) from rfl)) (r2_addS (by rw [word_len, word_len, List.length_singleton]; omega))) (ed_is (ed_cb (ea_cons (ed_op (ed_fz 2 rfl) (ed_int 1) (r2_ixT rfl)) ea_nil) (rc_strI (log60 p2))) (congrArg D.str (str_int p.2))) (r2_addS (by rw [word_add, word_len, word_len, List.length_append, List.length_singleton]; omega))) (show _ = D.str (word tx) from ?_))) rfl
    rw [word_add, word_add, show tx = numT p.1 ++ 47 :: numT p.2 from if_neg h1]
    simp
  · have h1 : p.2 = 1 := by have := of_decide_eq_false h; omega
    rw [show tx = numT p.1 from if_pos h1]
    exact sd_next
  refine sd_seq (Γ1 := Γ0 (.fz (sh p)) (.fz (.str (word tx))) (.fz (.str (word tx))) .no .no .no .no) (sd_set 4 (ed_call (ea_cons (ed_fz 2 rfl) ea_nil) ⟨p, rfl, p1, p2, rfl⟩)) ?_
  refine sd_seq (sd_ifF (et_orF (et_nF (et_B (ed_cb (ea_cons (ed_fz 4 rfl) (ea_cons (ed_ty _) ea_nil)) (rc_isi rfl (by decide +kernel))))) (et_orF (et_is (et_test (ed_op (ed_fz 4 rfl) (ed_fz 3 rfl) (r2_ne (.str (n := 0) tt.ok) (.str (n := 0) tt.ok)))) (by rw [eqD_str, decide_eq_true rfl]; rfl)) (et_nF (et_B (ed_is (ed_call (ea_cons (ed_callX (ea_cons (ed_fz 3 rfl) ea_nil) ⟨_, p, rfl, .inl ⟨tx, rfl, tt⟩, by rw [rdD_str]; exact rd, rfl⟩) (ea_cons (ed_fz 2 rfl) ea_nil)) ⟨_, _, rfl, rfl⟩) (congrArg D.bl (decide_eq_true rfl))))))) sd_next) ?_
  let c := cellAt ns 2
  let Γ1 : Gam := Γ0 (.fz (sh p)) (.fz (.str (word tx))) (.fz (.str (word tx))) (.fz (.int c)) .no .no .no
  refine sd_seq (Γ1 := Γ1) (sd_set 5 (cell 2 rfl)) ?_
  refine sd_seq (Γ1 := Γ1) (sd_for (ei_list (ed_lst (ea_cons (ed_call (ea_cons (ed_fz 3 rfl) (ea_cons (ed_fz 5 rfl) ea_nil)) ⟨tx, c, rfl, tt, wl, rfl⟩) (ea_cons (ed_call (ea_cons (ed_fz 5 rfl) ea_nil) ⟨c, rfl, rfl⟩) (ea_cons (ed_fz 3 rfl) ea_nil))))) (loopF_same (Pd := Rdb) (fun o ho => ?_) _ fun d hd => ?_)) (sd_ret (ed_bl _))
  · refine ⟨[6], _, eg_name 6, Sd.lpLe (Γ1 := Γ0 (.fz (sh p)) (.fz (.str (word tx))) (.fz (.str (word tx))) (.fz (.int c)) (.fz o) (.fz (optD (rdD o))) (.fz (tolD (rdD o)))) (Sd.toLp (sd_seq (Γ1 := Γ0 (.fz (sh p)) (.fz (.str (word tx))) (.fz (.str (word tx))) (.fz (.int c)) (.fz o) (.fz (optD (rdD o))) .no) (sd_set 7 (ed_call (ea_cons (ed_fz 6 rfl) ea_nil) ⟨o, rfl, ho, rfl⟩)) (sd_seq (Γ1 := Γ0 (.fz (sh p)) (.fz (.str (word tx))) (.fz (.str (word tx))) (.fz (.int c)) (.fz o) (.fz (optD (rdD o))) (.fz (tolD (rdD o)))) (sd_set 8 (ed_call (ea_cons (ed_fz 6 rfl) ea_nil) ⟨o, rfl, ho, rfl⟩)) (sd_ifF ?_ sd_next)))) ?_⟩
    · cases e : rdD o with
      | none => exact et_orF (et_andT (et_isN (d := .non) (ed_fz 7 rfl)) (et_is (et_test (ed_op (ed_fz 8 rfl) (ed_is (ed_tup (ea_cons (ed_str _) (ea_cons (ed_str _) ea_nil))) (show _ = refT from rfl)) (r2_ne pl_refT pl_refT))) (show (!eqD refT refT) = false by rw [eqD_refT]; rfl))) (et_andF (et_notN (d := .non) (ed_fz 7 rfl)))
      | some q => exact et_orF (et_andF (et_isN (d := sh q) (ed_fz 7 rfl))) (et_andT (et_notN (d := sh q) (ed_fz 7 rfl)) (et_nF (et_B (ed_is (ed_call (ea_cons (ed_fz 8 rfl) (ea_cons (ed_fz 7 rfl) ea_nil)) ⟨_, _, rfl, rfl⟩) (congrArg D.bl (decide_eq_true rfl))))))
    · exact .cons (.inr rfl) (.cons (.inr rfl) (.cons (.inr rfl) (.cons (.inr rfl) (.cons (.inr rfl) (.cons (.inr rfl) (.cons (.inl rfl) (.cons (.inl rfl) (.cons (.inl rfl) .nil))))))))
  · rcases List.mem_cons.mp hd with h | h
    · subst h; exact .inl ⟨_, rfl, chL_tx tt wl c⟩
    · rcases List.mem_cons.mp h with h | h
      · subst h; exact (odd_at c).2
      · rcases List.mem_cons.mp h with h | h
        · subst h; exact .inl ⟨_, rfl, tt⟩
        · cases h

end

theorem all_mk {l : PySem.W.OpenLaw} {w : World} {K : PySem.W.Frag} {h : Heap} {mg : Str → Option Value} {fa : Addr} (X : K.In h) (G : h.Ns mainGlobals mg) (hfa : mg "law" = some (.ref fa))
    {a_WeighError a_Nought a_NoText a_NoRow a_NoMachine a_NoWord a_OtherSigns a_TooMany : Addr}
    {fa_is_whole : Addr} {od_is_whole an_is_whole : Option Addr} {sl_is_whole : Array (Option Value)} {oc_is_whole kV_is_whole dc_is_whole pm_is_whole cd_is_whole ct_is_whole : Value}
    {fa_divisor : Addr} {od_divisor an_divisor : Option Addr} {sl_divisor : Array (Option Value)} {oc_divisor kV_divisor dc_divisor pm_divisor cd_divisor ct_divisor : Value}
    {fa_is_share : Addr} {od_is_share an_is_share : Option Addr} {sl_is_share : Array (Option Value)} {oc_is_share kV_is_share dc_is_share pm_is_share cd_is_share ct_is_share : Value}
    {fa_written : Addr} {od_written an_written : Option Addr} {sl_written : Array (Option Value)} {oc_written kV_written dc_written pm_written cd_written ct_written : Value}
    {fa_number_in : Addr} {od_number_in an_number_in : Option Addr} {sl_number_in : Array (Option Value)} {oc_number_in kV_number_in dc_number_in pm_number_in cd_number_in ct_number_in : Value}
    {fa_read : Addr} {od_read an_read : Option Addr} {sl_read : Array (Option Value)} {oc_read kV_read dc_read pm_read cd_read ct_read : Value}
    {fa_law_cell_at : Addr} {od_law_cell_at an_law_cell_at : Option Addr} {sl_law_cell_at : Array (Option Value)} {oc_law_cell_at kV_law_cell_at dc_law_cell_at pm_law_cell_at cd_law_cell_at ct_law_cell_at : Value}
    {fa_law_whole : Addr} {od_law_whole an_law_whole : Option Addr} {sl_law_whole : Array (Option Value)} {oc_law_whole kV_law_whole dc_law_whole pm_law_whole cd_law_whole ct_law_whole : Value}
    {fa_law_common : Addr} {od_law_common an_law_common : Option Addr} {sl_law_common : Array (Option Value)} {oc_law_common kV_law_common dc_law_common pm_law_common cd_law_common ct_law_common : Value}
    {fa_law_share : Addr} {od_law_share an_law_share : Option Addr} {sl_law_share : Array (Option Value)} {oc_law_share kV_law_share dc_law_share pm_law_share cd_law_share ct_law_share : Value}
    {fa_law_is : Addr} {od_law_is an_law_is : Option Addr} {sl_law_is : Array (Option Value)} {oc_law_is kV_law_is dc_law_is pm_law_is cd_law_is ct_law_is : Value}
    {fa_law_number : Addr} {od_law_number an_law_number : Option Addr} {sl_law_number : Array (Option Value)} {oc_law_number kV_law_number dc_law_number pm_law_number cd_law_number ct_law_number : Value}
    {fa_law_word_of : Addr} {od_law_word_of an_law_word_of : Option Addr} {sl_law_word_of : Array (Option Value)} {oc_law_word_of kV_law_word_of dc_law_word_of pm_law_word_of cd_law_word_of ct_law_word_of : Value}
    {fa_law_figures : Addr} {od_law_figures an_law_figures : Option Addr} {sl_law_figures : Array (Option Value)} {oc_law_figures kV_law_figures dc_law_figures pm_law_figures cd_law_figures ct_law_figures : Value}
    {fa_law_read_here : Addr} {od_law_read_here an_law_read_here : Option Addr} {sl_law_read_here : Array (Option Value)} {oc_law_read_here kV_law_read_here dc_law_read_here pm_law_read_here cd_law_read_here ct_law_read_here : Value}
    {fa_law_told : Addr} {od_law_told an_law_told : Option Addr} {sl_law_told : Array (Option Value)} {oc_law_told kV_law_told dc_law_told pm_law_told cd_law_told ct_law_told : Value}
    {fa_law_changed : Addr} {od_law_changed an_law_changed : Option Addr} {sl_law_changed : Array (Option Value)} {oc_law_changed kV_law_changed dc_law_changed pm_law_changed cd_law_changed ct_law_changed : Value}
    {fa_law_odd : Addr} {od_law_odd an_law_odd : Option Addr} {sl_law_odd : Array (Option Value)} {oc_law_odd kV_law_odd dc_law_odd pm_law_odd cd_law_odd ct_law_odd : Value}
    {fa_law : Addr} {od_law an_law : Option Addr} {sl_law : Array (Option Value)} {oc_law kV_law dc_law pm_law cd_law ct_law : Value}
    {tk_FIGURES : Tok}
    {tk_MOST_FIGURES : Tok}
    (h1_is_whole : PySem.W.nsIn K mainGlobals "is_whole" = some (some (.ref fa_is_whole)))
    (h2_is_whole : K.lookup fa_is_whole = some ⟨oc_is_whole, od_is_whole, .func (PySem.W.fnOf "is_whole" "is_whole" (defArgs s_is_whole) (defBody s_is_whole) (defScope s_is_whole) .none kV_is_whole dc_is_whole pm_is_whole an_is_whole cd_is_whole ct_is_whole), sl_is_whole⟩)
    (h3_is_whole : PySem.W.codeIn K cd_is_whole "is_whole" = true)
    (h4_is_whole : PySem.W.keepIn K (.ref fa_is_whole) = true)
    (h1_divisor : PySem.W.nsIn K mainGlobals "divisor" = some (some (.ref fa_divisor)))
    (h2_divisor : K.lookup fa_divisor = some ⟨oc_divisor, od_divisor, .func (PySem.W.fnOf "divisor" "divisor" (defArgs s_divisor) (defBody s_divisor) (defScope s_divisor) .none kV_divisor dc_divisor pm_divisor an_divisor cd_divisor ct_divisor), sl_divisor⟩)
    (h3_divisor : PySem.W.codeIn K cd_divisor "divisor" = true)
    (h4_divisor : PySem.W.keepIn K (.ref fa_divisor) = true)
    (h1_is_share : PySem.W.nsIn K mainGlobals "is_share" = some (some (.ref fa_is_share)))
    (h2_is_share : K.lookup fa_is_share = some ⟨oc_is_share, od_is_share, .func (PySem.W.fnOf "is_share" "is_share" (defArgs s_is_share) (defBody s_is_share) (defScope s_is_share) .none kV_is_share dc_is_share pm_is_share an_is_share cd_is_share ct_is_share), sl_is_share⟩)
    (h3_is_share : PySem.W.codeIn K cd_is_share "is_share" = true)
    (h4_is_share : PySem.W.keepIn K (.ref fa_is_share) = true)
    (h1_written : PySem.W.nsIn K mainGlobals "written" = some (some (.ref fa_written)))
    (h2_written : K.lookup fa_written = some ⟨oc_written, od_written, .func (PySem.W.fnOf "written" "written" (defArgs s_written) (defBody s_written) (defScope s_written) .none kV_written dc_written pm_written an_written cd_written ct_written), sl_written⟩)
    (h3_written : PySem.W.codeIn K cd_written "written" = true)
    (h4_written : PySem.W.keepIn K (.ref fa_written) = true)
    (h1_number_in : PySem.W.nsIn K mainGlobals "number_in" = some (some (.ref fa_number_in)))
    (h2_number_in : K.lookup fa_number_in = some ⟨oc_number_in, od_number_in, .func (PySem.W.fnOf "number_in" "number_in" (defArgs s_number_in) (defBody s_number_in) (defScope s_number_in) .none kV_number_in dc_number_in pm_number_in an_number_in cd_number_in ct_number_in), sl_number_in⟩)
    (h3_number_in : PySem.W.codeIn K cd_number_in "number_in" = true)
    (h4_number_in : PySem.W.keepIn K (.ref fa_number_in) = true)
    (h1_read : PySem.W.nsIn K mainGlobals "read" = some (some (.ref fa_read)))
    (h2_read : K.lookup fa_read = some ⟨oc_read, od_read, .func (PySem.W.fnOf "read" "read" (defArgs s_read) (defBody s_read) (defScope s_read) .none kV_read dc_read pm_read an_read cd_read ct_read), sl_read⟩)
    (h3_read : PySem.W.codeIn K cd_read "read" = true)
    (h4_read : PySem.W.keepIn K (.ref fa_read) = true)
    (h1_law_cell_at : PySem.W.nsIn K mainGlobals "_law_cell_at" = some (some (.ref fa_law_cell_at)))
    (h2_law_cell_at : K.lookup fa_law_cell_at = some ⟨oc_law_cell_at, od_law_cell_at, .func (PySem.W.fnOf "_law_cell_at" "_law_cell_at" (defArgs s_law_cell_at) (defBody s_law_cell_at) (defScope s_law_cell_at) .none kV_law_cell_at dc_law_cell_at pm_law_cell_at an_law_cell_at cd_law_cell_at ct_law_cell_at), sl_law_cell_at⟩)
    (h3_law_cell_at : PySem.W.codeIn K cd_law_cell_at "_law_cell_at" = true)
    (h4_law_cell_at : PySem.W.keepIn K (.ref fa_law_cell_at) = true)
    (h1_law_whole : PySem.W.nsIn K mainGlobals "_law_whole" = some (some (.ref fa_law_whole)))
    (h2_law_whole : K.lookup fa_law_whole = some ⟨oc_law_whole, od_law_whole, .func (PySem.W.fnOf "_law_whole" "_law_whole" (defArgs s_law_whole) (defBody s_law_whole) (defScope s_law_whole) .none kV_law_whole dc_law_whole pm_law_whole an_law_whole cd_law_whole ct_law_whole), sl_law_whole⟩)
    (h3_law_whole : PySem.W.codeIn K cd_law_whole "_law_whole" = true)
    (h4_law_whole : PySem.W.keepIn K (.ref fa_law_whole) = true)
    (h1_law_common : PySem.W.nsIn K mainGlobals "_law_common" = some (some (.ref fa_law_common)))
    (h2_law_common : K.lookup fa_law_common = some ⟨oc_law_common, od_law_common, .func (PySem.W.fnOf "_law_common" "_law_common" (defArgs s_law_common) (defBody s_law_common) (defScope s_law_common) .none kV_law_common dc_law_common pm_law_common an_law_common cd_law_common ct_law_common), sl_law_common⟩)
    (h3_law_common : PySem.W.codeIn K cd_law_common "_law_common" = true)
    (h4_law_common : PySem.W.keepIn K (.ref fa_law_common) = true)
    (h1_law_share : PySem.W.nsIn K mainGlobals "_law_share" = some (some (.ref fa_law_share)))
    (h2_law_share : K.lookup fa_law_share = some ⟨oc_law_share, od_law_share, .func (PySem.W.fnOf "_law_share" "_law_share" (defArgs s_law_share) (defBody s_law_share) (defScope s_law_share) .none kV_law_share dc_law_share pm_law_share an_law_share cd_law_share ct_law_share), sl_law_share⟩)
    (h3_law_share : PySem.W.codeIn K cd_law_share "_law_share" = true)
    (h4_law_share : PySem.W.keepIn K (.ref fa_law_share) = true)
    (h1_law_is : PySem.W.nsIn K mainGlobals "_law_is" = some (some (.ref fa_law_is)))
    (h2_law_is : K.lookup fa_law_is = some ⟨oc_law_is, od_law_is, .func (PySem.W.fnOf "_law_is" "_law_is" (defArgs s_law_is) (defBody s_law_is) (defScope s_law_is) .none kV_law_is dc_law_is pm_law_is an_law_is cd_law_is ct_law_is), sl_law_is⟩)
    (h3_law_is : PySem.W.codeIn K cd_law_is "_law_is" = true)
    (h4_law_is : PySem.W.keepIn K (.ref fa_law_is) = true)
    (h1_law_number : PySem.W.nsIn K mainGlobals "_law_number" = some (some (.ref fa_law_number)))
    (h2_law_number : K.lookup fa_law_number = some ⟨oc_law_number, od_law_number, .func (PySem.W.fnOf "_law_number" "_law_number" (defArgs s_law_number) (defBody s_law_number) (defScope s_law_number) .none kV_law_number dc_law_number pm_law_number an_law_number cd_law_number ct_law_number), sl_law_number⟩)
    (h3_law_number : PySem.W.codeIn K cd_law_number "_law_number" = true)
    (h4_law_number : PySem.W.keepIn K (.ref fa_law_number) = true)
    (h1_law_word_of : PySem.W.nsIn K mainGlobals "_law_word_of" = some (some (.ref fa_law_word_of)))
    (h2_law_word_of : K.lookup fa_law_word_of = some ⟨oc_law_word_of, od_law_word_of, .func (PySem.W.fnOf "_law_word_of" "_law_word_of" (defArgs s_law_word_of) (defBody s_law_word_of) (defScope s_law_word_of) .none kV_law_word_of dc_law_word_of pm_law_word_of an_law_word_of cd_law_word_of ct_law_word_of), sl_law_word_of⟩)
    (h3_law_word_of : PySem.W.codeIn K cd_law_word_of "_law_word_of" = true)
    (h4_law_word_of : PySem.W.keepIn K (.ref fa_law_word_of) = true)
    (h1_law_figures : PySem.W.nsIn K mainGlobals "_law_figures" = some (some (.ref fa_law_figures)))
    (h2_law_figures : K.lookup fa_law_figures = some ⟨oc_law_figures, od_law_figures, .func (PySem.W.fnOf "_law_figures" "_law_figures" (defArgs s_law_figures) (defBody s_law_figures) (defScope s_law_figures) .none kV_law_figures dc_law_figures pm_law_figures an_law_figures cd_law_figures ct_law_figures), sl_law_figures⟩)
    (h3_law_figures : PySem.W.codeIn K cd_law_figures "_law_figures" = true)
    (h4_law_figures : PySem.W.keepIn K (.ref fa_law_figures) = true)
    (h1_law_read_here : PySem.W.nsIn K mainGlobals "_law_read_here" = some (some (.ref fa_law_read_here)))
    (h2_law_read_here : K.lookup fa_law_read_here = some ⟨oc_law_read_here, od_law_read_here, .func (PySem.W.fnOf "_law_read_here" "_law_read_here" (defArgs s_law_read_here) (defBody s_law_read_here) (defScope s_law_read_here) .none kV_law_read_here dc_law_read_here pm_law_read_here an_law_read_here cd_law_read_here ct_law_read_here), sl_law_read_here⟩)
    (h3_law_read_here : PySem.W.codeIn K cd_law_read_here "_law_read_here" = true)
    (h4_law_read_here : PySem.W.keepIn K (.ref fa_law_read_here) = true)
    (h1_law_told : PySem.W.nsIn K mainGlobals "_law_told" = some (some (.ref fa_law_told)))
    (h2_law_told : K.lookup fa_law_told = some ⟨oc_law_told, od_law_told, .func (PySem.W.fnOf "_law_told" "_law_told" (defArgs s_law_told) (defBody s_law_told) (defScope s_law_told) .none kV_law_told dc_law_told pm_law_told an_law_told cd_law_told ct_law_told), sl_law_told⟩)
    (h3_law_told : PySem.W.codeIn K cd_law_told "_law_told" = true)
    (h4_law_told : PySem.W.keepIn K (.ref fa_law_told) = true)
    (h1_law_changed : PySem.W.nsIn K mainGlobals "_law_changed" = some (some (.ref fa_law_changed)))
    (h2_law_changed : K.lookup fa_law_changed = some ⟨oc_law_changed, od_law_changed, .func (PySem.W.fnOf "_law_changed" "_law_changed" (defArgs s_law_changed) (defBody s_law_changed) (defScope s_law_changed) .none kV_law_changed dc_law_changed pm_law_changed an_law_changed cd_law_changed ct_law_changed), sl_law_changed⟩)
    (h3_law_changed : PySem.W.codeIn K cd_law_changed "_law_changed" = true)
    (h4_law_changed : PySem.W.keepIn K (.ref fa_law_changed) = true)
    (h1_law_odd : PySem.W.nsIn K mainGlobals "_law_odd" = some (some (.ref fa_law_odd)))
    (h2_law_odd : K.lookup fa_law_odd = some ⟨oc_law_odd, od_law_odd, .func (PySem.W.fnOf "_law_odd" "_law_odd" (defArgs s_law_odd) (defBody s_law_odd) (defScope s_law_odd) .none kV_law_odd dc_law_odd pm_law_odd an_law_odd cd_law_odd ct_law_odd), sl_law_odd⟩)
    (h3_law_odd : PySem.W.codeIn K cd_law_odd "_law_odd" = true)
    (h4_law_odd : PySem.W.keepIn K (.ref fa_law_odd) = true)
    (h1_law : PySem.W.nsIn K mainGlobals "law" = some (some (.ref fa_law)))
    (h2_law : K.lookup fa_law = some ⟨oc_law, od_law, .func (PySem.W.fnOf "law" "law" (defArgs s_law) (defBody s_law) (defScope s_law) .none kV_law dc_law pm_law an_law cd_law ct_law), sl_law⟩)
    (h3_law : PySem.W.codeIn K cd_law "law" = true)
    (h4_law : PySem.W.keepIn K (.ref fa_law) = true)
    (n_isinstance : PySem.W.nsIn K mainGlobals "isinstance" = some none)
    (n_int : PySem.W.nsIn K mainGlobals "int" = some none)
    (n_bool : PySem.W.nsIn K mainGlobals "bool" = some none)
    (n_tuple : PySem.W.nsIn K mainGlobals "tuple" = some none)
    (n_len : PySem.W.nsIn K mainGlobals "len" = some none)
    (n_abs : PySem.W.nsIn K mainGlobals "abs" = some none)
    (n_str : PySem.W.nsIn K mainGlobals "str" = some none)
    (n_all : PySem.W.nsIn K mainGlobals "all" = some none)
    (n_ValueError : PySem.W.nsIn K mainGlobals "ValueError" = some none)
    (n_max : PySem.W.nsIn K mainGlobals "max" = some none)
    (m_WeighError : PySem.W.nsIn K mainGlobals "WeighError" = some (some (.ref a_WeighError)))
    (m_Nought : PySem.W.nsIn K mainGlobals "Nought" = some (some (.ref a_Nought)))
    (m_NoText : PySem.W.nsIn K mainGlobals "NoText" = some (some (.ref a_NoText)))
    (m_NoRow : PySem.W.nsIn K mainGlobals "NoRow" = some (some (.ref a_NoRow)))
    (m_NoMachine : PySem.W.nsIn K mainGlobals "NoMachine" = some (some (.ref a_NoMachine)))
    (m_NoWord : PySem.W.nsIn K mainGlobals "NoWord" = some (some (.ref a_NoWord)))
    (m_OtherSigns : PySem.W.nsIn K mainGlobals "OtherSigns" = some (some (.ref a_OtherSigns)))
    (m_TooMany : PySem.W.nsIn K mainGlobals "TooMany" = some (some (.ref a_TooMany)))
    (x_WeighError : PySem.W.excIn K a_WeighError [.type "ValueError", .type "Exception", .type "BaseException", .type "object"] "ValueError.__new__" = true)
    (k_WeighError : PySem.W.keepIn K (.ref a_WeighError) = true)
    (b_WeighError : PySem.W.subIn K (.ref a_WeighError) (.type "BaseException") = some true)
    (t_WeighError : PySem.W.typeIn K (.ref a_WeighError) = some (.type "type"))
    (x_Nought : PySem.W.excIn K a_Nought [.type "ValueError", .type "Exception", .type "BaseException", .type "object"] "ValueError.__new__" = true)
    (k_Nought : PySem.W.keepIn K (.ref a_Nought) = true)
    (b_Nought : PySem.W.subIn K (.ref a_Nought) (.type "BaseException") = some true)
    (t_Nought : PySem.W.typeIn K (.ref a_Nought) = some (.type "type"))
    (x_NoText : PySem.W.excIn K a_NoText [.type "ValueError", .type "Exception", .type "BaseException", .type "object"] "ValueError.__new__" = true)
    (k_NoText : PySem.W.keepIn K (.ref a_NoText) = true)
    (b_NoText : PySem.W.subIn K (.ref a_NoText) (.type "BaseException") = some true)
    (t_NoText : PySem.W.typeIn K (.ref a_NoText) = some (.type "type"))
    (x_NoRow : PySem.W.excIn K a_NoRow [.type "ValueError", .type "Exception", .type "BaseException", .type "object"] "ValueError.__new__" = true)
    (k_NoRow : PySem.W.keepIn K (.ref a_NoRow) = true)
    (b_NoRow : PySem.W.subIn K (.ref a_NoRow) (.type "BaseException") = some true)
    (t_NoRow : PySem.W.typeIn K (.ref a_NoRow) = some (.type "type"))
    (x_NoMachine : PySem.W.excIn K a_NoMachine [.type "ValueError", .type "Exception", .type "BaseException", .type "object"] "ValueError.__new__" = true)
    (k_NoMachine : PySem.W.keepIn K (.ref a_NoMachine) = true)
    (b_NoMachine : PySem.W.subIn K (.ref a_NoMachine) (.type "BaseException") = some true)
    (t_NoMachine : PySem.W.typeIn K (.ref a_NoMachine) = some (.type "type"))
    (x_NoWord : PySem.W.excIn K a_NoWord [.type "ValueError", .type "Exception", .type "BaseException", .type "object"] "ValueError.__new__" = true)
    (k_NoWord : PySem.W.keepIn K (.ref a_NoWord) = true)
    (b_NoWord : PySem.W.subIn K (.ref a_NoWord) (.type "BaseException") = some true)
    (t_NoWord : PySem.W.typeIn K (.ref a_NoWord) = some (.type "type"))
    (x_OtherSigns : PySem.W.excIn K a_OtherSigns [.type "ValueError", .type "Exception", .type "BaseException", .type "object"] "ValueError.__new__" = true)
    (k_OtherSigns : PySem.W.keepIn K (.ref a_OtherSigns) = true)
    (b_OtherSigns : PySem.W.subIn K (.ref a_OtherSigns) (.type "BaseException") = some true)
    (t_OtherSigns : PySem.W.typeIn K (.ref a_OtherSigns) = some (.type "type"))
    (x_TooMany : PySem.W.excIn K a_TooMany [.type "ValueError", .type "Exception", .type "BaseException", .type "object"] "ValueError.__new__" = true)
    (k_TooMany : PySem.W.keepIn K (.ref a_TooMany) = true)
    (b_TooMany : PySem.W.subIn K (.ref a_TooMany) (.type "BaseException") = some true)
    (t_TooMany : PySem.W.typeIn K (.ref a_TooMany) = some (.type "type"))
    (dc_WeighError : PySem.W.hasDictIn K a_WeighError = true)
    (s_NoText_WeighError : PySem.W.subIn K (.ref a_NoText) (.ref a_WeighError) = some true)
    (g1_NoText : PySem.W.findIn K (.ref a_NoText) "__getattribute__" = some (some (.builtin "BaseException.__getattribute__")))
    (g2_NoText : PySem.W.findIn K (.ref a_NoText) "__getattr__" = some none)
    (g4_NoText : PySem.W.hasDictIn K a_NoText = true)
    (g5_NoText : PySem.W.findIn K (.ref a_NoText) "__class__" = some (some (.builtin "object.__class__")))
    (g6_NoText : PySem.W.specialIn K (.builtin "object.__class__") "__get__" = some (some (.builtin "getset_descriptor.__get__")))
    (g7_NoText : PySem.W.takesIn K (.builtin "object.__class__") = some true)
    (g8_NoText : PySem.W.mroIn K a_NoText (.type "object") = some true)
    (ic_Nought : PySem.W.isClsIn K a_Nought = true)
    (ne_NoText_Nought : a_NoText ≠ a_Nought)
    (s_NoText_Nought : PySem.W.subIn K (.ref a_NoText) (.ref a_Nought) = some false)
    (ic_NoRow : PySem.W.isClsIn K a_NoRow = true)
    (ne_NoText_NoRow : a_NoText ≠ a_NoRow)
    (s_NoText_NoRow : PySem.W.subIn K (.ref a_NoText) (.ref a_NoRow) = some false)
    (ic_NoMachine : PySem.W.isClsIn K a_NoMachine = true)
    (ne_NoText_NoMachine : a_NoText ≠ a_NoMachine)
    (s_NoText_NoMachine : PySem.W.subIn K (.ref a_NoText) (.ref a_NoMachine) = some false)
    (ic_NoWord : PySem.W.isClsIn K a_NoWord = true)
    (ne_NoText_NoWord : a_NoText ≠ a_NoWord)
    (s_NoText_NoWord : PySem.W.subIn K (.ref a_NoText) (.ref a_NoWord) = some false)
    (ic_OtherSigns : PySem.W.isClsIn K a_OtherSigns = true)
    (ne_NoText_OtherSigns : a_NoText ≠ a_OtherSigns)
    (s_NoText_OtherSigns : PySem.W.subIn K (.ref a_NoText) (.ref a_OtherSigns) = some false)
    (ic_TooMany : PySem.W.isClsIn K a_TooMany = true)
    (ne_NoText_TooMany : a_NoText ≠ a_TooMany)
    (s_NoText_TooMany : PySem.W.subIn K (.ref a_NoText) (.ref a_TooMany) = some false)
    (sv_NoText : PySem.W.subIn K (.ref a_NoText) (.type "ValueError") = some true)
    (m_FIGURES : PySem.W.nsIn K mainGlobals "FIGURES" = some (some (.str "0123456789" tk_FIGURES)))
    (m_MOST_FIGURES : PySem.W.nsIn K mainGlobals "MOST_FIGURES" = some (some (.int 60 tk_MOST_FIGURES))) :
    ∃ fd : FuncData, (∀ (s : Shared) (v : Value), BindsTo s fd ⟨[v], []⟩ [("_law_script", v)]) ∧ ∀ base : Heap, K.In base → base.Ns mainGlobals mg → FnOk l.prog w K mg base CX0 12 fa fd ["_law_script"] (spLaw K) := by
  have e := hfa.symm.trans (PySem.W.mg_of X G h1_law)
  cases e
  have T : Tx K mg a_WeighError a_Nought a_NoText a_NoRow a_NoMachine a_NoWord a_OtherSigns a_TooMany := {
    d_is_whole := ⟨_, _, fun_mk (st := s_is_whole) h2_is_whole h3_is_whole h4_is_whole, PySem.W.mg_of X G h1_is_whole, (fun_mk (st := s_is_whole) h2_is_whole h3_is_whole h4_is_whole).binds (ps := ["thing"]) fun _ _ _ _ _ _ us hl => match us, hl with | [_], _ => rfl⟩,
    d_divisor := ⟨_, _, fun_mk (st := s_divisor) h2_divisor h3_divisor h4_divisor, PySem.W.mg_of X G h1_divisor, (fun_mk (st := s_divisor) h2_divisor h3_divisor h4_divisor).binds (ps := ["one", "other"]) fun _ _ _ _ _ _ us hl => match us, hl with | [_, _], _ => rfl⟩,
    d_is_share := ⟨_, _, fun_mk (st := s_is_share) h2_is_share h3_is_share h4_is_share, PySem.W.mg_of X G h1_is_share, (fun_mk (st := s_is_share) h2_is_share h3_is_share h4_is_share).binds (ps := ["thing"]) fun _ _ _ _ _ _ us hl => match us, hl with | [_], _ => rfl⟩,
    d_written := ⟨_, _, fun_mk (st := s_written) h2_written h3_written h4_written, PySem.W.mg_of X G h1_written, (fun_mk (st := s_written) h2_written h3_written h4_written).binds (ps := ["part"]) fun _ _ _ _ _ _ us hl => match us, hl with | [_], _ => rfl⟩,
    d_number_in := ⟨_, _, fun_mk (st := s_number_in) h2_number_in h3_number_in h4_number_in, PySem.W.mg_of X G h1_number_in, (fun_mk (st := s_number_in) h2_number_in h3_number_in h4_number_in).binds (ps := ["word"]) fun _ _ _ _ _ _ us hl => match us, hl with | [_], _ => rfl⟩,
    d_read := ⟨_, _, fun_mk (st := s_read) h2_read h3_read h4_read, PySem.W.mg_of X G h1_read, (fun_mk (st := s_read) h2_read h3_read h4_read).binds (ps := ["text"]) fun _ _ _ _ _ _ us hl => match us, hl with | [_], _ => rfl⟩,
    d__law_cell_at := ⟨_, _, fun_mk (st := s_law_cell_at) h2_law_cell_at h3_law_cell_at h4_law_cell_at, PySem.W.mg_of X G h1_law_cell_at, (fun_mk (st := s_law_cell_at) h2_law_cell_at h3_law_cell_at h4_law_cell_at).binds (ps := ["_law_script", "_law_k"]) fun _ _ _ _ _ _ us hl => match us, hl with | [_, _], _ => rfl⟩,
    d__law_whole := ⟨_, _, fun_mk (st := s_law_whole) h2_law_whole h3_law_whole h4_law_whole, PySem.W.mg_of X G h1_law_whole, (fun_mk (st := s_law_whole) h2_law_whole h3_law_whole h4_law_whole).binds (ps := ["_law_found"]) fun _ _ _ _ _ _ us hl => match us, hl with | [_], _ => rfl⟩,
    d__law_common := ⟨_, _, fun_mk (st := s_law_common) h2_law_common h3_law_common h4_law_common, PySem.W.mg_of X G h1_law_common, (fun_mk (st := s_law_common) h2_law_common h3_law_common h4_law_common).binds (ps := ["_law_one", "_law_other"]) fun _ _ _ _ _ _ us hl => match us, hl with | [_, _], _ => rfl⟩,
    d__law_share := ⟨_, _, fun_mk (st := s_law_share) h2_law_share h3_law_share h4_law_share, PySem.W.mg_of X G h1_law_share, (fun_mk (st := s_law_share) h2_law_share h3_law_share h4_law_share).binds (ps := ["_law_top", "_law_bottom"]) fun _ _ _ _ _ _ us hl => match us, hl with | [_, _], _ => rfl⟩,
    d__law_is := ⟨_, _, fun_mk (st := s_law_is) h2_law_is h3_law_is h4_law_is, PySem.W.mg_of X G h1_law_is, (fun_mk (st := s_law_is) h2_law_is h3_law_is h4_law_is).binds (ps := ["_law_found", "_law_due"]) fun _ _ _ _ _ _ us hl => match us, hl with | [_, _], _ => rfl⟩,
    d__law_number := ⟨_, _, fun_mk (st := s_law_number) h2_law_number h3_law_number h4_law_number, PySem.W.mg_of X G h1_law_number, (fun_mk (st := s_law_number) h2_law_number h3_law_number h4_law_number).binds (ps := ["_law_cell"]) fun _ _ _ _ _ _ us hl => match us, hl with | [_], _ => rfl⟩,
    d__law_word_of := ⟨_, _, fun_mk (st := s_law_word_of) h2_law_word_of h3_law_word_of h4_law_word_of, PySem.W.mg_of X G h1_law_word_of, (fun_mk (st := s_law_word_of) h2_law_word_of h3_law_word_of h4_law_word_of).binds (ps := ["_law_e"]) fun _ _ _ _ _ _ us hl => match us, hl with | [_], _ => rfl⟩,
    d__law_figures := ⟨_, _, fun_mk (st := s_law_figures) h2_law_figures h3_law_figures h4_law_figures, PySem.W.mg_of X G h1_law_figures, (fun_mk (st := s_law_figures) h2_law_figures h3_law_figures h4_law_figures).binds (ps := ["_law_word"]) fun _ _ _ _ _ _ us hl => match us, hl with | [_], _ => rfl⟩,
    d__law_read_here := ⟨_, _, fun_mk (st := s_law_read_here) h2_law_read_here h3_law_read_here h4_law_read_here, PySem.W.mg_of X G h1_law_read_here, (fun_mk (st := s_law_read_here) h2_law_read_here h3_law_read_here h4_law_read_here).binds (ps := ["_law_text"]) fun _ _ _ _ _ _ us hl => match us, hl with | [_], _ => rfl⟩,
    d__law_told := ⟨_, _, fun_mk (st := s_law_told) h2_law_told h3_law_told h4_law_told, PySem.W.mg_of X G h1_law_told, (fun_mk (st := s_law_told) h2_law_told h3_law_told h4_law_told).binds (ps := ["_law_text"]) fun _ _ _ _ _ _ us hl => match us, hl with | [_], _ => rfl⟩,
    d__law_changed := ⟨_, _, fun_mk (st := s_law_changed) h2_law_changed h3_law_changed h4_law_changed, PySem.W.mg_of X G h1_law_changed, (fun_mk (st := s_law_changed) h2_law_changed h3_law_changed h4_law_changed).binds (ps := ["_law_text", "_law_cell"]) fun _ _ _ _ _ _ us hl => match us, hl with | [_, _], _ => rfl⟩,
    d__law_odd := ⟨_, _, fun_mk (st := s_law_odd) h2_law_odd h3_law_odd h4_law_odd, PySem.W.mg_of X G h1_law_odd, (fun_mk (st := s_law_odd) h2_law_odd h3_law_odd h4_law_odd).binds (ps := ["_law_cell"]) fun _ _ _ _ _ _ us hl => match us, hl with | [_], _ => rfl⟩,
    d_law := ⟨_, _, fun_mk (st := s_law) h2_law h3_law h4_law, PySem.W.mg_of X G h1_law, (fun_mk (st := s_law) h2_law h3_law h4_law).binds (ps := ["_law_script"]) fun _ _ _ _ _ _ us hl => match us, hl with | [_], _ => rfl⟩,
    n_isinstance := PySem.W.mg_none_of X G n_isinstance,
    n_int := PySem.W.mg_none_of X G n_int,
    n_bool := PySem.W.mg_none_of X G n_bool,
    n_tuple := PySem.W.mg_none_of X G n_tuple,
    n_len := PySem.W.mg_none_of X G n_len,
    n_abs := PySem.W.mg_none_of X G n_abs,
    n_str := PySem.W.mg_none_of X G n_str,
    n_all := PySem.W.mg_none_of X G n_all,
    n_ValueError := PySem.W.mg_none_of X G n_ValueError,
    n_max := PySem.W.mg_none_of X G n_max,
    m_WeighError := PySem.W.mg_of X G m_WeighError,
    m_Nought := PySem.W.mg_of X G m_Nought,
    m_NoText := PySem.W.mg_of X G m_NoText,
    m_NoRow := PySem.W.mg_of X G m_NoRow,
    m_NoMachine := PySem.W.mg_of X G m_NoMachine,
    m_NoWord := PySem.W.mg_of X G m_NoWord,
    m_OtherSigns := PySem.W.mg_of X G m_OtherSigns,
    m_TooMany := PySem.W.mg_of X G m_TooMany,
    x_WeighError := x_WeighError,
    k_WeighError := k_WeighError,
    b_WeighError := b_WeighError,
    t_WeighError := t_WeighError,
    x_Nought := x_Nought,
    k_Nought := k_Nought,
    b_Nought := b_Nought,
    t_Nought := t_Nought,
    x_NoText := x_NoText,
    k_NoText := k_NoText,
    b_NoText := b_NoText,
    t_NoText := t_NoText,
    x_NoRow := x_NoRow,
    k_NoRow := k_NoRow,
    b_NoRow := b_NoRow,
    t_NoRow := t_NoRow,
    x_NoMachine := x_NoMachine,
    k_NoMachine := k_NoMachine,
    b_NoMachine := b_NoMachine,
    t_NoMachine := t_NoMachine,
    x_NoWord := x_NoWord,
    k_NoWord := k_NoWord,
    b_NoWord := b_NoWord,
    t_NoWord := t_NoWord,
    x_OtherSigns := x_OtherSigns,
    k_OtherSigns := k_OtherSigns,
    b_OtherSigns := b_OtherSigns,
    t_OtherSigns := t_OtherSigns,
    x_TooMany := x_TooMany,
    k_TooMany := k_TooMany,
    b_TooMany := b_TooMany,
    t_TooMany := t_TooMany,
    em_NoText := PySem.W.exm_ref b_WeighError dc_WeighError t_WeighError s_NoText_WeighError,
    ge_NoText := ⟨g1_NoText, g2_NoText, b_NoText, g4_NoText, g5_NoText, g6_NoText, g7_NoText, g8_NoText⟩,
    is_NoText_Nought := kit_other ne_NoText_Nought ic_Nought t_Nought s_NoText_Nought,
    is_NoText_NoText := kit_self,
    is_NoText_NoRow := kit_other ne_NoText_NoRow ic_NoRow t_NoRow s_NoText_NoRow,
    is_NoText_NoMachine := kit_other ne_NoText_NoMachine ic_NoMachine t_NoMachine s_NoText_NoMachine,
    is_NoText_NoWord := kit_other ne_NoText_NoWord ic_NoWord t_NoWord s_NoText_NoWord,
    is_NoText_OtherSigns := kit_other ne_NoText_OtherSigns ic_OtherSigns t_OtherSigns s_NoText_OtherSigns,
    is_NoText_TooMany := kit_other ne_NoText_TooMany ic_TooMany t_TooMany s_NoText_TooMany,
    iv_NoText := kit_val sv_NoText,
    m_FIGURES := ⟨_, PySem.W.mg_of X G m_FIGURES⟩,
    m_MOST_FIGURES := ⟨_, PySem.W.mg_of X G m_MOST_FIGURES⟩ }
  exact ⟨PySem.W.fnOf "law" "law" (defArgs s_law) (defBody s_law) (defScope s_law) .none kV_law dc_law pm_law an_law cd_law ct_law, fun s v => .of_eq rfl, fun base _ _ => ok_law T (fun_mk (st := s_law) h2_law h3_law h4_law)⟩
end Kx
open PySem PySem.W PyProof.Rows
set_option maxRecDepth 100000 in
set_option maxHeartbeats 0 in
theorem PySem.Challenge.cw_weighwords_k03_written_holds : PySem.Challenge.rw_weighwords_k03_written.Holds := by
  w_on; o_law; k_head; (case hw => w_witness2)
  k_fill
  refine L2.walk_ofB (l := PySem.Challenge.rw_weighwords_k03_written) (n := 63) (k := 12) (x := "_law_script") (CX := fun _ => L2.CX0) (sp := fun w => DL.spLaw _) rfl (by decide) rfl ⟨rfl, by decide, by decide⟩ (fun w h Y => PySem.W.kIn_of Y) ?F (fun _ _ a ns hl hb _ hS => ⟨a, ns, rfl, hS, hl, hb, fun _ => rfl⟩) (fun _ _ _ _ _ h => h)
  case F =>
    intro w mg fa h KX G hmg
    refine' Kx.all_mk KX G hmg ?h1_is_whole ?h2_is_whole ?h3_is_whole ?h4_is_whole ?h1_divisor ?h2_divisor ?h3_divisor ?h4_divisor ?h1_is_share ?h2_is_share ?h3_is_share ?h4_is_share ?h1_written ?h2_written ?h3_written ?h4_written ?h1_number_in ?h2_number_in ?h3_number_in ?h4_number_in ?h1_read ?h2_read ?h3_read ?h4_read ?h1_law_cell_at ?h2_law_cell_at ?h3_law_cell_at ?h4_law_cell_at ?h1_law_whole ?h2_law_whole ?h3_law_whole ?h4_law_whole ?h1_law_common ?h2_law_common ?h3_law_common ?h4_law_common ?h1_law_share ?h2_law_share ?h3_law_share ?h4_law_share ?h1_law_is ?h2_law_is ?h3_law_is ?h4_law_is ?h1_law_number ?h2_law_number ?h3_law_number ?h4_law_number ?h1_law_word_of ?h2_law_word_of ?h3_law_word_of ?h4_law_word_of ?h1_law_figures ?h2_law_figures ?h3_law_figures ?h4_law_figures ?h1_law_read_here ?h2_law_read_here ?h3_law_read_here ?h4_law_read_here ?h1_law_told ?h2_law_told ?h3_law_told ?h4_law_told ?h1_law_changed ?h2_law_changed ?h3_law_changed ?h4_law_changed ?h1_law_odd ?h2_law_odd ?h3_law_odd ?h4_law_odd ?h1_law ?h2_law ?h3_law ?h4_law ?n_isinstance ?n_int ?n_bool ?n_tuple ?n_len ?n_abs ?n_str ?n_all ?n_ValueError ?n_max ?m_WeighError ?m_Nought ?m_NoText ?m_NoRow ?m_NoMachine ?m_NoWord ?m_OtherSigns ?m_TooMany ?x_WeighError ?k_WeighError ?b_WeighError ?t_WeighError ?x_Nought ?k_Nought ?b_Nought ?t_Nought ?x_NoText ?k_NoText ?b_NoText ?t_NoText ?x_NoRow ?k_NoRow ?b_NoRow ?t_NoRow ?x_NoMachine ?k_NoMachine ?b_NoMachine ?t_NoMachine ?x_NoWord ?k_NoWord ?b_NoWord ?t_NoWord ?x_OtherSigns ?k_OtherSigns ?b_OtherSigns ?t_OtherSigns ?x_TooMany ?k_TooMany ?b_TooMany ?t_TooMany ?dc_WeighError ?s_NoText_WeighError ?g1_NoText ?g2_NoText ?g4_NoText ?g5_NoText ?g6_NoText ?g7_NoText ?g8_NoText ?ic_Nought ?ne_NoText_Nought ?s_NoText_Nought ?ic_NoRow ?ne_NoText_NoRow ?s_NoText_NoRow ?ic_NoMachine ?ne_NoText_NoMachine ?s_NoText_NoMachine ?ic_NoWord ?ne_NoText_NoWord ?s_NoText_NoWord ?ic_OtherSigns ?ne_NoText_OtherSigns ?s_NoText_OtherSigns ?ic_TooMany ?ne_NoText_TooMany ?s_NoText_TooMany ?sv_NoText ?m_FIGURES ?m_MOST_FIGURES
    (case h1_is_whole => k_is)
    (case h2_is_whole => k_is)
    (case h3_is_whole => k_is)
    (case h4_is_whole => k_is)
    (case h1_divisor => k_is)
    (case h2_divisor => k_is)
    (case h3_divisor => k_is)
    (case h4_divisor => k_is)
    (case h1_is_share => k_is)
    (case h2_is_share => k_is)
    (case h3_is_share => k_is)
    (case h4_is_share => k_is)
    (case h1_written => k_is)
    (case h2_written => k_is)
    (case h3_written => k_is)
    (case h4_written => k_is)
    (case h1_number_in => k_is)
    (case h2_number_in => k_is)
    (case h3_number_in => k_is)
    (case h4_number_in => k_is)
    (case h1_read => k_is)
    (case h2_read => k_is)
    (case h3_read => k_is)
    (case h4_read => k_is)
    (case h1_law_cell_at => k_is)
    (case h2_law_cell_at => k_is)
    (case h3_law_cell_at => k_is)
    (case h4_law_cell_at => k_is)
    (case h1_law_whole => k_is)
    (case h2_law_whole => k_is)
    (case h3_law_whole => k_is)
    (case h4_law_whole => k_is)
    (case h1_law_common => k_is)
    (case h2_law_common => k_is)
    (case h3_law_common => k_is)
    (case h4_law_common => k_is)
    (case h1_law_share => k_is)
    (case h2_law_share => k_is)
    (case h3_law_share => k_is)
    (case h4_law_share => k_is)
    (case h1_law_is => k_is)
    (case h2_law_is => k_is)
    (case h3_law_is => k_is)
    (case h4_law_is => k_is)
    (case h1_law_number => k_is)
    (case h2_law_number => k_is)
    (case h3_law_number => k_is)
    (case h4_law_number => k_is)
    (case h1_law_word_of => k_is)
    (case h2_law_word_of => k_is)
    (case h3_law_word_of => k_is)
    (case h4_law_word_of => k_is)
    (case h1_law_figures => k_is)
    (case h2_law_figures => k_is)
    (case h3_law_figures => k_is)
    (case h4_law_figures => k_is)
    (case h1_law_read_here => k_is)
    (case h2_law_read_here => k_is)
    (case h3_law_read_here => k_is)
    (case h4_law_read_here => k_is)
    (case h1_law_told => k_is)
    (case h2_law_told => k_is)
    (case h3_law_told => k_is)
    (case h4_law_told => k_is)
    (case h1_law_changed => k_is)
    (case h2_law_changed => k_is)
    (case h3_law_changed => k_is)
    (case h4_law_changed => k_is)
    (case h1_law_odd => k_is)
    (case h2_law_odd => k_is)
    (case h3_law_odd => k_is)
    (case h4_law_odd => k_is)
    (case h1_law => k_is)
    (case h2_law => k_is)
    (case h3_law => k_is)
    (case h4_law => k_is)
    (case n_isinstance => k_is)
    (case n_int => k_is)
    (case n_bool => k_is)
    (case n_tuple => k_is)
    (case n_len => k_is)
    (case n_abs => k_is)
    (case n_str => k_is)
    (case n_all => k_is)
    (case n_ValueError => k_is)
    (case n_max => k_is)
    (case m_WeighError => k_is)
    (case m_Nought => k_is)
    (case m_NoText => k_is)
    (case m_NoRow => k_is)
    (case m_NoMachine => k_is)
    (case m_NoWord => k_is)
    (case m_OtherSigns => k_is)
    (case m_TooMany => k_is)
    (case x_WeighError => k_exc)
    (case k_WeighError => k_is)
    (case b_WeighError => k_is)
    (case t_WeighError => k_is)
    (case x_Nought => k_exc)
    (case k_Nought => k_is)
    (case b_Nought => k_is)
    (case t_Nought => k_is)
    (case x_NoText => k_exc)
    (case k_NoText => k_is)
    (case b_NoText => k_is)
    (case t_NoText => k_is)
    (case x_NoRow => k_exc)
    (case k_NoRow => k_is)
    (case b_NoRow => k_is)
    (case t_NoRow => k_is)
    (case x_NoMachine => k_exc)
    (case k_NoMachine => k_is)
    (case b_NoMachine => k_is)
    (case t_NoMachine => k_is)
    (case x_NoWord => k_exc)
    (case k_NoWord => k_is)
    (case b_NoWord => k_is)
    (case t_NoWord => k_is)
    (case x_OtherSigns => k_exc)
    (case k_OtherSigns => k_is)
    (case b_OtherSigns => k_is)
    (case t_OtherSigns => k_is)
    (case x_TooMany => k_exc)
    (case k_TooMany => k_is)
    (case b_TooMany => k_is)
    (case t_TooMany => k_is)
    (case dc_WeighError => k_is)
    (case s_NoText_WeighError => k_is)
    (case g1_NoText => k_is)
    (case g2_NoText => k_is)
    (case g4_NoText => k_is)
    (case g5_NoText => k_is)
    (case g6_NoText => k_is)
    (case g7_NoText => k_is)
    (case g8_NoText => k_is)
    (case ic_Nought => k_is)
    (case ne_NoText_Nought => decide)
    (case s_NoText_Nought => k_is)
    (case ic_NoRow => k_is)
    (case ne_NoText_NoRow => decide)
    (case s_NoText_NoRow => k_is)
    (case ic_NoMachine => k_is)
    (case ne_NoText_NoMachine => decide)
    (case s_NoText_NoMachine => k_is)
    (case ic_NoWord => k_is)
    (case ne_NoText_NoWord => decide)
    (case s_NoText_NoWord => k_is)
    (case ic_OtherSigns => k_is)
    (case ne_NoText_OtherSigns => decide)
    (case s_NoText_OtherSigns => k_is)
    (case ic_TooMany => k_is)
    (case ne_NoText_TooMany => decide)
    (case s_NoText_TooMany => k_is)
    (case sv_NoText => k_is)
    (case m_FIGURES => k_is)
    (case m_MOST_FIGURES => k_is)

