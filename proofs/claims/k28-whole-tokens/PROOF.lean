import PyProof.Rows.All
import Wide.All
import OpenK.AllK
import Wide.FinOn
import HandS.ForMost
import HandS.Wide
import HandS.IsInst
import HandS.Flow
import HandS.StrMore
import HandS.Codes
import HandS.Steps
import KE.BitLaws
import HandS.Text
import PySem.Challenge.RW_drawever_k28_whole_tokens
set_option Elab.async false
set_option linter.all false
set_option maxRecDepth 100000
set_option maxHeartbeats 2000000
/-! Sx: a deterministic value semantics over the hand layer: values are trees, mutable things stand in a small heap of cells. -/
namespace Sx
open PySem PySem.Spec L2
open PyProof.Rows hiding St

/-! ### values, cells, results -/
/-- tup: a tuple; fl: a list that is never changed again; kl: the caller's list (the script); ref: a cell -/
inductive Val where
  | non | bl (b : Bool) | int (i : Int) | str (x : List Nat) | ref (i : Nat) | tup (vs : List Val) | fl (vs : List Val) | kl (vs : List Val)
inductive Cell where
  | dead | lst (vs : List Val)
abbrev Env := List (Option Val)
abbrev Hv := List Cell
inductive R (α : Type) where
  | ok (a : α) (h : Hv) | exc (c : Nat) (v : List Val) (h : Hv) | bad
def R.bind {α β : Type} (r : R α) (f : α → Hv → R β) : R β := match r with
  | .ok a h => f a h
  | .exc c v h => .exc c v h
  | .bad => .bad
abbrev SE := Env → Hv → R Val
abbrev SA := Env → Hv → R (List Val)
abbrev ST := Env → Hv → R Bool
inductive Fl where
  | nx (σ : Env) | rt (v : Val) | bk (σ : Env) | ct (σ : Env)
abbrev SS := Env → Hv → R Fl
abbrev SG := Val → Env → Hv → R Env
/-- a def: its arguments, the cells -/
abbrev SF := List Val → Hv → R Val
@[simp] theorem bind_ok {α β : Type} {a : α} {h : Hv} {f : α → Hv → R β} : (R.ok a h).bind f = f a h := rfl
@[simp] theorem bind_bad {α β : Type} {f : α → Hv → R β} : (R.bad : R α).bind f = .bad := rfl
@[simp] theorem bind_exc {α β : Type} {c : Nat} {v : List Val} {h : Hv} {f : α → Hv → R β} : (R.exc c v h : R α).bind f = .exc c v h := rfl

/-! ### what the cells stand for -/
structure Sn where
  m : List Addr
  h : Hv
  H : Hp
  /-- addresses of lists that are just being made -/
  z : List Addr
def Al (S : Sn) (p : Addr) : Prop := p ∈ S.z ∨ ∃ (i : Nat) (c : Cell), S.m[i]? = some p ∧ S.h[i]? = some c ∧ c ≠ Cell.dead
def KT (K : PySem.W.Frag) (a : Addr) (xs : List V) : Prop := ∃ (o : Obj) (its : Array Value) (n : Nat), K.lookup a = some o ∧ o.cls = .type "tuple" ∧ o.data = .seq its n ∧ its.size ≤ sizeLine ∧ Vals xs its.toList
def KL (K : PySem.W.Frag) (a : Addr) (xs : List V) : Prop := ∃ (o : Obj) (its : Array Value) (n : Nat), K.lookup a = some o ∧ o.cls = .type "list" ∧ o.dict = none ∧ o.data = .seq its n ∧ its.size ≤ sizeLine ∧ Vals xs its.toList
/-- a tuple; a list of ours that no cell is; the script -/
def FT (K : PySem.W.Frag) (S : Sn) (a : Addr) (xs : List V) : Prop := (S.H a = some (.tup xs) ∧ ¬ Al S a) ∨ KT K a xs
def FL (S : Sn) (a : Addr) (xs : List V) : Prop := S.H a = some (.lst xs) ∧ ¬ Al S a
def FK (K : PySem.W.Frag) (S : Sn) (a : Addr) (xs : List V) : Prop := (Rd S.H a (.lst xs) ∧ ¬ Al S a) ∨ KL K a xs
mutual
def VRel (K : PySem.W.Frag) (S : Sn) : Val → V → Prop
  | .non, w => w = .non
  | .bl b, w => w = .bl b
  | .int i, w => w = .int i
  | .str x, w => ∃ y : Str, w = .str y ∧ y.cps.toList = x
  | .ref i, w => ∃ p, w = .ref p ∧ S.m[i]? = some p
  | .tup vs, w => ∃ p ws, w = .ref p ∧ FT K S p ws ∧ VRels K S vs ws
  | .fl vs, w => ∃ p ws, w = .ref p ∧ FL S p ws ∧ VRels K S vs ws
  | .kl vs, w => ∃ p ws, w = .ref p ∧ FK K S p ws ∧ VRels K S vs ws
def VRels (K : PySem.W.Frag) (S : Sn) : List Val → List V → Prop
  | [], ws => ws = []
  | v :: vs, ws => ∃ w r, ws = w :: r ∧ VRel K S v w ∧ VRels K S vs r
end
def ORel (K : PySem.W.Frag) (cm : Nat → Addr) (S : Sn) (p : Addr) : Cell → Prop
  | .dead => True
  | .lst vs => ∃ ws, S.H p = some (.lst ws) ∧ VRels K S vs ws
structure MR (K : PySem.W.Frag) (cm : Nat → Addr) (S : Sn) : Prop where
  len : S.m.length = S.h.length
  inj : ∀ (i j : Nat) (p : Addr) (ci cj : Cell), S.m[i]? = some p → S.m[j]? = some p → S.h[i]? = some ci → ci ≠ .dead → S.h[j]? = some cj → cj ≠ .dead → i = j
  obj : ∀ (i : Nat) (c : Cell) (p : Addr), S.h[i]? = some c → S.m[i]? = some p → ORel K cm S p c
  zn : ∀ p ∈ S.z, S.H p ≠ none
  zc : ∀ (i : Nat) (p : Addr) (c : Cell), S.m[i]? = some p → S.h[i]? = some c → c ≠ .dead → p ∉ S.z
structure Ext (S S' : Sn) : Prop where
  zz : S'.z = S.z
  pre : ∀ (i : Nat) (p : Addr), S.m[i]? = some p → S'.m[i]? = some p
  keep : ∀ (p : Addr) (o : HO), S.H p = some o → ¬ Al S p → S'.H p = some o ∧ ¬ Al S' p
  rz : ∀ p ∈ S.z, S'.H p = S.H p
def SRel (K : PySem.W.Frag) (S : Sn) (sv : Env) (σ : St) : Prop := sv.length = σ.length ∧ ∀ (i : Nat) (v : Val), sv[i]? = some (some v) → ∃ w, σ[i]? = some (some w) ∧ VRel K S v w

/-- as Ext, whatever is held back -/
structure Lift (S S' : Sn) : Prop where
  pre : ∀ (i : Nat) (p : Addr), S.m[i]? = some p → S'.m[i]? = some p
  keep : ∀ (p : Addr) (o : HO), S.H p = some o → ¬ Al S p → S'.H p = some o ∧ ¬ Al S' p
theorem Ext.lift {S S' : Sn} (e : Ext S S') : Lift S S' := ⟨e.pre, e.keep⟩
theorem Lift.refl (S : Sn) : Lift S S := ⟨fun _ _ h => h, fun _ _ h k => ⟨h, k⟩⟩
theorem Lift.trans {S S1 S2 : Sn} (a : Lift S S1) (b : Lift S1 S2) : Lift S S2 := ⟨fun i p h => b.pre i p (a.pre i p h), fun p o h k => let ⟨h1, k1⟩ := a.keep p o h k; b.keep p o h1 k1⟩
theorem Ext.refl (S : Sn) : Ext S S := ⟨rfl, fun _ _ h => h, fun _ _ h k => ⟨h, k⟩, fun _ _ => rfl⟩
theorem Ext.trans {S S1 S2 : Sn} (a : Ext S S1) (b : Ext S1 S2) : Ext S S2 :=
  ⟨b.zz.trans a.zz, fun i p h => b.pre i p (a.pre i p h), fun p o h k => let ⟨h1, k1⟩ := a.keep p o h k; b.keep p o h1 k1, fun p h => (b.rz p (by rw [a.zz]; exact h)).trans (a.rz p h)⟩
section
variable {K : PySem.W.Frag} {cm : Nat → Addr} {S S' S1 : Sn}
theorem FT.lift {a : Addr} {xs : List V} (e : Lift S S') : FT K S a xs → FT K S' a xs
  | .inl h => .inl (e.keep _ _ h.1 h.2)
  | .inr h => .inr h
theorem FL.lift {a : Addr} {xs : List V} (e : Lift S S') (h : FL S a xs) : FL S' a xs := e.keep _ _ h.1 h.2
theorem FK.lift {a : Addr} {xs : List V} (e : Lift S S') : FK K S a xs → FK K S' a xs
  | .inl ⟨.inl h, k⟩ => let ⟨h', k'⟩ := e.keep _ _ h k; .inl ⟨.inl h', k'⟩
  | .inl ⟨.inr ⟨o, h⟩, k⟩ => let ⟨h', k'⟩ := e.keep _ _ h k; .inl ⟨.inr ⟨o, h'⟩, k'⟩
  | .inr h => .inr h
mutual
theorem VRel.lift (e : Lift S S') : ∀ (v : Val) {w : V}, VRel K S v w → VRel K S' v w
  | .non, _, h => h
  | .bl _, _, h => h
  | .int _, _, h => h
  | .str _, _, h => h
  | .ref _, _, ⟨p, h1, h2⟩ => ⟨p, h1, e.pre _ _ h2⟩
  | .tup vs, _, ⟨p, ws, h1, h2, h3⟩ => ⟨p, ws, h1, h2.lift e, VRels.lift e vs h3⟩
  | .fl vs, _, ⟨p, ws, h1, h2, h3⟩ => ⟨p, ws, h1, h2.lift e, VRels.lift e vs h3⟩
  | .kl vs, _, ⟨p, ws, h1, h2, h3⟩ => ⟨p, ws, h1, h2.lift e, VRels.lift e vs h3⟩
theorem VRels.lift (e : Lift S S') : ∀ (vs : List Val) {ws : List V}, VRels K S vs ws → VRels K S' vs ws
  | [], _, h => h
  | v :: vs, _, ⟨w, r, h1, h2, h3⟩ => ⟨w, r, h1, VRel.lift e v h2, VRels.lift e vs h3⟩
end
theorem VRel.ext (e : Ext S S') (v : Val) {w : V} (h : VRel K S v w) : VRel K S' v w := VRel.lift e.lift v h
theorem VRels.ext (e : Ext S S') (vs : List Val) {ws : List V} (h : VRels K S vs ws) : VRels K S' vs ws := VRels.lift e.lift vs h
theorem SRel.lift {sv : Env} {σ : L2.St} (e : Lift S S') (h : SRel K S sv σ) : SRel K S' sv σ :=
  ⟨h.1, fun i v q => let ⟨w, h1, h2⟩ := h.2 i v q; ⟨w, h1, VRel.lift e v h2⟩⟩
theorem SRel.ext {sv : Env} {σ : L2.St} (e : Ext S S') (h : SRel K S sv σ) : SRel K S' sv σ := h.lift e.lift
theorem SRel.set {sv : Env} {σ : St} {v : Val} {w : V} (h : SRel K S sv σ) (r : VRel K S v w) (i : Nat) : SRel K S (sv.set i (some v)) (σ.set i (some w)) := by
  refine ⟨by simp [h.1], fun j u q => ?_⟩
  by_cases e : i = j
  · subst e
    by_cases hl : i < sv.length
    · rw [List.getElem?_set_self hl] at q
      cases q
      exact ⟨w, by rw [List.getElem?_set_self (by rw [← h.1]; exact hl)], r⟩
    · rw [List.getElem?_eq_none (by simp; omega)] at q
      cases q
  · rw [List.getElem?_set_ne e] at q ⊢
    exact h.2 j u q
theorem VRels.length : ∀ {vs : List Val} {ws : List V}, VRels K S vs ws → vs.length = ws.length
  | [], _, h => by cases h; rfl
  | _ :: vs, _, ⟨w, r, h1, _, h3⟩ => by subst h1; simp [VRels.length h3]
theorem VRels.get : ∀ {vs : List Val} {ws : List V} {i : Nat} {v : Val}, VRels K S vs ws → vs[i]? = some v → ∃ w, ws[i]? = some w ∧ VRel K S v w
  | [], _, _, _, _, e => by simp at e
  | _ :: _, _, 0, _, ⟨w, r, h1, h2, _⟩, e => by subst h1; simp at e; subst e; exact ⟨w, rfl, h2⟩
  | _ :: vs, _, i + 1, _, ⟨w, r, h1, _, h3⟩, e => by subst h1; simpa using VRels.get (i := i) h3 (by simpa using e)
theorem VRels.append : ∀ {vs us : List Val} {ws xs : List V}, VRels K S vs ws → VRels K S us xs → VRels K S (vs ++ us) (ws ++ xs)
  | [], _, _, _, h, k => by cases h; exact k
  | _ :: vs, _, _, _, ⟨w, r, h1, h2, h3⟩, k => by subst h1; exact ⟨w, _, rfl, h2, VRels.append h3 k⟩
theorem VRels.take : ∀ {vs : List Val} {ws : List V} (n : Nat), VRels K S vs ws → VRels K S (vs.take n) (ws.take n)
  | _, _, 0, _ => by simp [VRels]
  | [], _, _ + 1, h => by cases h; simp [VRels]
  | _ :: vs, _, n + 1, ⟨w, r, h1, h2, h3⟩ => by subst h1; exact ⟨w, _, rfl, h2, VRels.take n h3⟩
theorem VRels.drop : ∀ {vs : List Val} {ws : List V} (n : Nat), VRels K S vs ws → VRels K S (vs.drop n) (ws.drop n)
  | _, _, 0, h => h
  | [], _, _ + 1, h => by cases h; simp [VRels]
  | _ :: vs, _, n + 1, ⟨w, r, h1, h2, h3⟩ => by subst h1; exact VRels.drop n h3
theorem VRels.set {v : Val} {w : V} (q : VRel K S v w) : ∀ {vs : List Val} {ws : List V} (n : Nat), VRels K S vs ws → VRels K S (vs.set n v) (ws.set n w)
  | [], _, _, h => by cases h; simp [VRels]
  | _ :: vs, _, 0, ⟨w', r, h1, h2, h3⟩ => by subst h1; exact ⟨w, _, rfl, q, h3⟩
  | _ :: vs, _, n + 1, ⟨w', r, h1, h2, h3⟩ => by subst h1; exact ⟨w', _, rfl, h2, VRels.set q n h3⟩
theorem VRels.erase : ∀ {vs : List Val} {ws : List V} (n : Nat), VRels K S vs ws → VRels K S (vs.eraseIdx n) (ws.eraseIdx n)
  | [], _, _, h => by cases h; simp [VRels]
  | _ :: vs, _, 0, ⟨w', r, h1, h2, h3⟩ => by subst h1; exact h3
  | _ :: vs, _, n + 1, ⟨w', r, h1, h2, h3⟩ => by subst h1; exact ⟨w', _, rfl, h2, VRels.erase n h3⟩
theorem VRels.reverse : ∀ {vs : List Val} {ws : List V}, VRels K S vs ws → VRels K S vs.reverse ws.reverse
  | [], _, h => by cases h; simp [VRels]
  | _ :: vs, _, ⟨w', r, h1, h2, h3⟩ => by
    subst h1
    rw [List.reverse_cons, List.reverse_cons]
    exact VRels.append (VRels.reverse h3) ⟨w', [], rfl, h2, rfl⟩
theorem VRels.nil : VRels K S [] [] := rfl
theorem VRels.cons {v : Val} {w : V} {vs : List Val} {ws : List V} (h : VRel K S v w) (r : VRels K S vs ws) : VRels K S (v :: vs) (w :: ws) := ⟨w, ws, rfl, h, r⟩
theorem FT.sq {a : Addr} {xs : List V} : FT K S a xs → SqT K S.H a xs
  | .inl h => .inl (.inl h.1)
  | .inr h => .inr h
theorem FL.sq {a : Addr} {xs : List V} (h : FL S a xs) : SqL K S.H a xs := .inl (.inl h.1)
theorem FK.sq {a : Addr} {xs : List V} : FK K S a xs → SqL K S.H a xs
  | .inl ⟨h, _⟩ => .inl h
  | .inr h => .inr h

/-! ### steps of the abstract state -/
/-- a new thing that is no cell -/
def Sn.lay (S : Sn) (p : Addr) (o : HO) : Sn := { S with H := upd S.H p o }
theorem MR.al (M : MR K cm S) {p : Addr} (a : Al S p) : S.H p ≠ none := by
  rcases a with a | ⟨i, c, h1, h2, h3⟩
  · exact M.zn p a
  have q := M.obj i c p h2 h1
  cases c with
  | dead => exact absurd rfl h3
  | lst vs => obtain ⟨ws, e, _⟩ := q; rw [e]; exact fun z => nomatch z
theorem ext_lay (M : MR K cm S) {p : Addr} (hp : S.H p = none) (o : HO) : Ext S (S.lay p o) :=
  ⟨rfl, fun _ _ h => h, fun q u h k => ⟨by show upd S.H p o q = _; rw [upd_ne (ne_of_none h hp)]; exact h, k⟩, fun q hq => upd_ne fun z => M.zn q hq (by rw [z]; exact hp)⟩
theorem ORel.lift {p : Addr} {c : Cell} (e : Lift S S') (hH : ∀ o, S.H p = some o → S'.H p = some o) (h : ORel K cm S p c) : ORel K cm S' p c := by
  cases c with
  | dead => trivial
  | lst vs => obtain ⟨ws, h1, h2⟩ := h; exact ⟨ws, hH _ h1, VRels.lift e vs h2⟩
theorem ORel.ext' {p : Addr} {c : Cell} (e : Ext S S') (hH : ∀ o, S.H p = some o → S'.H p = some o) (h : ORel K cm S p c) : ORel K cm S' p c := h.lift e.lift hH
theorem upd_nn {H : Hp} {p q : Addr} {o : HO} (h : H q ≠ none) : upd H p o q ≠ none := by
  unfold upd
  split
  · exact fun z => nomatch z
  · exact h
theorem mr_lay (M : MR K cm S) {p : Addr} (hp : S.H p = none) (o : HO) : MR K cm (S.lay p o) :=
  ⟨M.len, M.inj, fun i c q h1 h2 => (M.obj i c q h1 h2).ext' (ext_lay M hp o) fun u hu => by show upd S.H p o q = _; rw [upd_ne (ne_of_none hu hp)]; exact hu, fun q hq => upd_nn (M.zn q hq), M.zc⟩
theorem not_al (M : MR K cm S) {p : Addr} (hp : S.H p = none) : ¬ Al S p := fun a => M.al a hp
/-- a new cell -/
def Sn.new (S : Sn) (p : Addr) (o : HO) (c : Cell) : Sn := ⟨S.m ++ [p], S.h ++ [c], upd S.H p o, S.z⟩
theorem get_snoc {α : Type} {l : List α} {x y : α} {i : Nat} (h : (l ++ [x])[i]? = some y) : l[i]? = some y ∨ (i = l.length ∧ y = x) := by
  by_cases hi : i < l.length
  · rw [List.getElem?_append_left hi] at h; exact .inl h
  · rw [List.getElem?_append_right (by omega)] at h
    have : i - l.length = 0 := by
      rcases Nat.eq_zero_or_pos (i - l.length) with z | z
      · exact z
      · rw [List.getElem?_eq_none (by simp; omega)] at h; cases h
    rw [this] at h
    exact .inr ⟨by omega, by simpa using h.symm⟩
theorem get_snoc_of {α : Type} {l : List α} {x y : α} {i : Nat} (h : l[i]? = some y) : (l ++ [x])[i]? = some y := by
  have hi : i < l.length := (List.getElem?_eq_some_iff.mp h).1
  rw [List.getElem?_append_left hi]; exact h
theorem al_new {p q : Addr} {o : HO} {c : Cell} (M : MR K cm S) (a : Al (S.new p o c) q) : Al S q ∨ q = p := by
  rcases a with a | ⟨i, c', h1, h2, h3⟩
  · exact .inl (.inl a)
  rcases get_snoc h1 with z | ⟨_, z⟩
  · rcases get_snoc h2 with y | ⟨y, _⟩
    · exact .inl (.inr ⟨i, c', z, y, h3⟩)
    · have : i < S.m.length := (List.getElem?_eq_some_iff.mp z).1
      rw [M.len] at this; omega
  · exact .inr z
theorem ext_new (M : MR K cm S) {p : Addr} (hp : S.H p = none) (o : HO) (c : Cell) : Ext S (S.new p o c) :=
  ⟨rfl, fun i q h => get_snoc_of h, fun q u h k => ⟨by show upd S.H p o q = _; rw [upd_ne (ne_of_none h hp)]; exact h, fun a => (al_new M a).elim k fun z => by rw [z, hp] at h; cases h⟩, fun q hq => upd_ne fun z => M.zn q hq (by rw [z]; exact hp)⟩
theorem mr_new (M : MR K cm S) {p : Addr} (hp : S.H p = none) {o : HO} {c : Cell} (hc : ORel K cm (S.new p o c) p c) : MR K cm (S.new p o c) := by
  have nlt : ∀ {i : Nat} {q : Addr}, S.m[i]? = some q → i < S.h.length := fun z => by rw [← M.len]; exact (List.getElem?_eq_some_iff.mp z).1
  refine ⟨by show (S.m ++ [p]).length = (S.h ++ [c]).length; simp [M.len], fun i j q ci cj h1 h2 h3 h4 h5 h6 => ?_, fun i c' q h1 h2 => ?_, fun q hq => upd_nn (M.zn q hq), fun i q c' h1 h2 h3 => ?_⟩
  · have alp : ∀ {i : Nat} {c' : Cell}, S.m[i]? = some p → (S.h ++ [c])[i]? = some c' → c' ≠ .dead → False := fun {i c'} z1 z2 z3 => by
      rcases get_snoc z2 with y | ⟨y, _⟩
      · exact not_al M hp (.inr ⟨i, c', z1, y, z3⟩)
      · have := nlt z1; omega
    rcases get_snoc h1 with z | ⟨z, zp⟩
    · rcases get_snoc h2 with y | ⟨y, yp⟩
      · rcases get_snoc h3 with x | ⟨x, _⟩
        · rcases get_snoc h5 with w | ⟨w, _⟩
          · exact M.inj i j q ci cj z y x h4 w h6
          · have := nlt y; omega
        · have := nlt z; omega
      · subst yp; exact (alp z h3 h4).elim
    · rcases get_snoc h2 with y | ⟨y, yp⟩
      · subst zp; exact (alp y h5 h6).elim
      · omega
  · rcases get_snoc h2 with z | ⟨z, zp⟩
    · rcases get_snoc h1 with y | ⟨y, _⟩
      · by_cases hd : c' = .dead
        · subst hd; trivial
        · have e : Ext S (S.new p o c) := ext_new M hp o c
          refine (M.obj i c' q y z).ext' e fun u hu => ?_
          show upd S.H p o q = _
          rw [upd_ne (ne_of_none hu hp)]; exact hu
      · have := nlt z; omega
    · subst zp
      rcases get_snoc h1 with y | ⟨_, yp⟩
      · have := (List.getElem?_eq_some_iff.mp y).1
        rw [← M.len] at this; omega
      · subst yp; exact hc
  · rcases get_snoc h1 with y | ⟨_, yp⟩
    · rcases get_snoc h2 with z | ⟨z, _⟩
      · exact M.zc i q c' y z h3
      · have := nlt y; omega
    · subst yp; exact fun hq => M.zn _ hq hp
/-- a cell written -/
def Sn.put (S : Sn) (i : Nat) (p : Addr) (o : HO) (c : Cell) : Sn := ⟨S.m, S.h.set i c, upd S.H p o, S.z⟩
theorem get_set {α : Type} {l : List α} {x y : α} {i j : Nat} (h : (l.set i x)[j]? = some y) : (i ≠ j ∧ l[j]? = some y) ∨ (i = j ∧ y = x ∧ i < l.length) := by
  by_cases e : i = j
  · subst e
    have hl : i < l.length := by have := (List.getElem?_eq_some_iff.mp h).1; simpa using this
    rw [List.getElem?_set_self hl] at h
    exact .inr ⟨rfl, by simpa using h.symm, hl⟩
  · rw [List.getElem?_set_ne e] at h; exact .inl ⟨e, h⟩
theorem al_put {i : Nat} {p q : Addr} {o : HO} {c c0 : Cell} (hm : S.m[i]? = some p) (hc : S.h[i]? = some c0) (hd : c0 ≠ .dead) (a : Al (S.put i p o c) q) : Al S q := by
  rcases a with a | ⟨j, c', h1, h2, h3⟩
  · exact .inl a
  rcases get_set h2 with ⟨_, z⟩ | ⟨z, _⟩
  · exact .inr ⟨j, c', h1, z, h3⟩
  · subst z
    exact .inr ⟨i, c0, h1, hc, hd⟩
theorem ext_put (M : MR K cm S) {i : Nat} {p : Addr} {o : HO} {c c0 : Cell} (hm : S.m[i]? = some p) (hc : S.h[i]? = some c0) (hd : c0 ≠ .dead) : Ext S (S.put i p o c) :=
  ⟨rfl, fun _ _ h => h, fun q u h k => ⟨by
    show upd S.H p o q = _
    rw [upd_ne (fun z => k (by rw [z]; exact .inr ⟨i, c0, hm, hc, hd⟩))]; exact h, fun a => k (al_put hm hc hd a)⟩, fun q hq => upd_ne fun z => M.zc i p c0 hm hc hd (by rw [← z]; exact hq)⟩
theorem mr_put (M : MR K cm S) {i : Nat} {p : Addr} {o : HO} {c c0 : Cell} (hm : S.m[i]? = some p) (hc : S.h[i]? = some c0) (hd : c0 ≠ .dead) (hn : ORel K cm (S.put i p o c) p c) : MR K cm (S.put i p o c) := by
  refine ⟨by show S.m.length = (S.h.set i c).length; simp [M.len], fun a b q ca cb h1 h2 h3 h4 h5 h6 => ?_, fun j c' q h1 h2 => ?_, fun q hq => upd_nn (M.zn q hq), fun j q c' h1 h2 h3 => ?_⟩
  · have f : ∀ {j : Nat} {cj : Cell}, (S.h.set i c)[j]? = some cj → cj ≠ .dead → ∃ c1, S.h[j]? = some c1 ∧ c1 ≠ .dead := fun {j cj} z1 z2 => by
      rcases get_set z1 with ⟨_, z⟩ | ⟨z, _⟩
      · exact ⟨cj, z, z2⟩
      · subst z; exact ⟨c0, hc, hd⟩
    obtain ⟨c1, x1, y1⟩ := f h3 h4
    obtain ⟨c2, x2, y2⟩ := f h5 h6
    exact M.inj a b q c1 c2 h1 h2 x1 y1 x2 y2
  · rcases get_set h1 with ⟨ne, z⟩ | ⟨z, z', _⟩
    · by_cases hd' : c' = .dead
      · subst hd'; trivial
      · have hq : q ≠ p := fun e => ne (by
          subst e
          exact M.inj i j q c0 c' hm h2 hc hd z hd')
        refine (M.obj j c' q z h2).ext' (ext_put M hm hc hd) fun u hu => ?_
        show upd S.H p o q = _
        rw [upd_ne hq]; exact hu
    · subst z z'
      have h2 : S.m[i]? = some q := h2
      rw [hm] at h2; cases h2
      exact hn
  · rcases get_set h2 with ⟨_, z⟩ | ⟨z, _⟩
    · exact M.zc j q c' h1 z h3
    · subst z; exact M.zc i q c0 h1 hc hd
/-- a cell that is no more -/
def Sn.kill (S : Sn) (i : Nat) : Sn := ⟨S.m, S.h.set i .dead, S.H, S.z⟩
theorem al_kill {i : Nat} {q : Addr} (a : Al (S.kill i) q) : Al S q := by
  rcases a with a | ⟨j, c', h1, h2, h3⟩
  · exact .inl a
  rcases get_set h2 with ⟨_, z⟩ | ⟨_, z, _⟩
  · exact .inr ⟨j, c', h1, z, h3⟩
  · exact absurd z h3
theorem ext_kill {i : Nat} : Ext S (S.kill i) := ⟨rfl, fun _ _ h => h, fun q u h k => ⟨h, fun a => k (al_kill a)⟩, fun _ _ => rfl⟩
theorem mr_kill (M : MR K cm S) (i : Nat) : MR K cm (S.kill i) := by
  refine ⟨by show S.m.length = (S.h.set i .dead).length; simp [M.len], fun a b q ca cb h1 h2 h3 h4 h5 h6 => ?_, fun j c' q h1 h2 => ?_, M.zn, fun j q c' h1 h2 h3 => ?_⟩
  · have f : ∀ {j : Nat} {cj : Cell}, (S.h.set i .dead)[j]? = some cj → cj ≠ .dead → S.h[j]? = some cj := fun {j cj} z1 z2 => by
      rcases get_set z1 with ⟨_, z⟩ | ⟨_, z, _⟩
      · exact z
      · exact absurd z z2
    exact M.inj a b q ca cb h1 h2 (f h3 h4) h4 (f h5 h6) h6
  · rcases get_set h1 with ⟨_, z⟩ | ⟨_, z, _⟩
    · exact (M.obj j c' q z h2).ext' ext_kill fun _ h => h
    · subst z; trivial
  · rcases get_set h2 with ⟨_, z⟩ | ⟨_, z, _⟩
    · exact M.zc j q c' h1 z h3
    · exact absurd z h3
theorem kill_not_al (M : MR K cm S) {i : Nat} {p : Addr} (hm : S.m[i]? = some p) (ha : ∃ c, S.h[i]? = some c ∧ c ≠ .dead) : ¬ Al (S.kill i) p := by
  obtain ⟨c, hc, hd⟩ := ha
  rintro (a | ⟨j, c', h1, h2, h3⟩)
  · exact M.zc i p c hm hc hd a
  rcases get_set h2 with ⟨ne, z⟩ | ⟨_, z, _⟩
  · exact ne (M.inj i j p c c' hm h1 hc hd z h3)
  · exact h3 z
end

/-! ### what is wanted behind a step -/
/-- what is wanted of exceptions: class, fields, state -/
abbrev XW := Nat → List Val → Sn → Prop
def Post (K : PySem.W.Frag) (cm : Nat → Addr) (W : XW) (S : Sn) {α : Type} (r : R α) (P : α → Sn → Prop) : Prop := match r with
  | .ok a h' => ∀ S', S'.h = h' → Ext S S' → MR K cm S' → P a S'
  | .exc c vs h' => ∀ S', S'.h = h' → Ext S S' → MR K cm S' → W c vs S'
  | .bad => False
section
variable {K : PySem.W.Frag} {cm : Nat → Addr} {W : XW} {S S' S1 : Sn} {α β : Type}
theorem Post.step {r : R α} {P : α → Sn → Prop} (e : Ext S S1) (h : Post K cm W S r P) : Post K cm W S1 r P := by
  cases r with
  | ok a h' => exact fun S' q e' M => h S' q (e.trans e') M
  | exc c vs h' => exact fun S' q e' M => h S' q (e.trans e') M
  | bad => exact h
theorem Post.bind {r : R α} {f : α → Hv → R β} {P : β → Sn → Prop} {P' : α → Sn → Prop} (h : Post K cm W S (r.bind f) P) (k : ∀ a S1, Ext S S1 → MR K cm S1 → Post K cm W S1 (f a S1.h) P → P' a S1) : Post K cm W S r P' := by
  cases r with
  | ok a h' => exact fun S' q e' M => k a S' e' M (Post.step e' (by rw [q]; exact h))
  | exc c vs h' => exact h
  | bad => exact h
theorem Post.imp {r : R α} {P P' : α → Sn → Prop} (h : Post K cm W S r P) (k : ∀ a S1, Ext S S1 → MR K cm S1 → P a S1 → P' a S1) : Post K cm W S r P' := by
  cases r with
  | ok a h' => exact fun S' q e' M => k a S' e' M (h S' q e' M)
  | exc c vs h' => exact h
  | bad => exact h
/-- an address reserved, written, given back -/
def Sn.res (S : Sn) (p : Addr) (o : HO) : Sn := ⟨S.m, S.h, upd S.H p o, p :: S.z⟩
theorem Post.here {a : α} {P : α → Sn → Prop} (h : Post K cm W S (.ok a S.h) P) (M : MR K cm S) : P a S := h S rfl (Ext.refl S) M
end

/-! ### the readings that a semantics gives -/
section
variable (K : PySem.W.Frag) (cm : Nat → Addr) (W : XW)
def tE (f : SE) : TE := fun σ H Q => ∃ S sv, S.H = H ∧ MR K cm S ∧ SRel K S sv σ ∧ Post K cm W S (f sv S.h) fun v S' => ∀ w, VRel K S' v w → Q w S'.H
def tA (f : SA) : TA := fun σ H Q => ∃ S sv, S.H = H ∧ MR K cm S ∧ SRel K S sv σ ∧ Post K cm W S (f sv S.h) fun v S' => ∀ w, VRels K S' v w → Q w S'.H
def tT (f : ST) : TT := fun σ H Q => ∃ S sv, S.H = H ∧ MR K cm S ∧ SRel K S sv σ ∧ Post K cm W S (f sv S.h) fun b S' => Q b S'.H
def FlP (D : Ends) : Fl → Sn → Prop
  | .nx sv, S => ∀ σ, SRel K S sv σ → D.nx σ S.H
  | .rt v, S => ∀ w, VRel K S v w → D.rt w S.H
  | .bk sv, S => ∀ σ, SRel K S sv σ → D.bk σ S.H
  | .ct sv, S => ∀ σ, SRel K S sv σ → D.ct σ S.H
def tSt (f : SS) : TS := fun D σ H => ∃ S sv, S.H = H ∧ MR K cm S ∧ SRel K S sv σ ∧ Post K cm W S (f sv S.h) (FlP K D)
def tG (f : SG) : TG := fun v σ H Q => ∃ S sv u, S.H = H ∧ MR K cm S ∧ SRel K S sv σ ∧ VRel K S u v ∧ Post K cm W S (f u sv S.h) fun sv' S' => ∀ σ', SRel K S' sv' σ' → Q σ' S'.H
/-- an operation of two values, of one, of an argument list -/
def OpS (r : R2) (g : Val → Val → Hv → R Val) : Prop := ∀ (S : Sn) (v1 v2 : Val) (w1 w2 : V) (Q : VK), MR K cm S → VRel K S v1 w1 → VRel K S v2 w2 → Post K cm W S (g v1 v2 S.h) (fun v S' => ∀ w, VRel K S' v w → Q w S'.H) → r w1 w2 S.H Q
def UnS (r : V → Hp → VK → Prop) (g : Val → Hv → R Val) : Prop := ∀ (S : Sn) (v : Val) (w : V) (Q : VK), MR K cm S → VRel K S v w → Post K cm W S (g v S.h) (fun v S' => ∀ w, VRel K S' v w → Q w S'.H) → r w S.H Q
def CaS (r : List V → Hp → VK → Prop) (g : List Val → Hv → R Val) : Prop := ∀ (S : Sn) (vs : List Val) (ws : List V) (Q : VK), MR K cm S → VRels K S vs ws → Post K cm W S (g vs S.h) (fun v S' => ∀ w, VRel K S' v w → Q w S'.H) → r ws S.H Q
end
theorem PE.imp {X : Cx} {e : Expr} {t t' : TE} (h : PE X e t) (k : ∀ σ H Q, t' σ H Q → t σ H Q) : PE X e t' := ⟨fun pins s σ H Q I q => h.run pins s σ H Q I (k _ _ _ q)⟩
theorem PA.imp {X : Cx} {e : List Expr} {t t' : TA} (h : PA X e t) (k : ∀ σ H Q, t' σ H Q → t σ H Q) : PA X e t' := ⟨fun p pins s σ H Q I q => h.run p pins s σ H Q I (k _ _ _ q)⟩
theorem PT.imp {X : Cx} {e : Expr} {t t' : TT} (h : PT X e t) (k : ∀ σ H Q, t' σ H Q → t σ H Q) : PT X e t' := ⟨fun pins s σ H Q I q => h.run pins s σ H Q I (k _ _ _ q)⟩
theorem PW.imp {X : Cx} {e : Expr} {t t' : TT} (h : PW X e t) (k : ∀ σ H Q, t' σ H Q → t σ H Q) : PW X e t' := ⟨fun wh pins s σ H Q I q => h.run wh pins s σ H Q I (k _ _ _ q)⟩
theorem PS.imp {X : Cx} {e : Stmt} {t t' : TS} (h : PS X e t) (k : ∀ D σ H, t' D σ H → t D σ H) : PS X e t' := ⟨fun pins s σ H D I q => h.run pins s σ H D I (k _ _ _ q)⟩
theorem PSs.imp {X : Cx} {e : List Stmt} {t t' : TS} (h : PSs X e t) (k : ∀ D σ H, t' D σ H → t D σ H) : PSs X e t' := ⟨fun pins s σ H D I q => h.run pins s σ H D I (k _ _ _ q)⟩
theorem PG.imp {X : Cx} {e : Expr} {t t' : TG} (h : PG X e t) (k : ∀ v σ H Q, t' v σ H Q → t v σ H Q) : PG X e t' := ⟨fun pins s σ H v u Q I r q => h.run pins s σ H v u Q I r (k _ _ _ _ q)⟩
end Sx

set_option Elab.async false
set_option linter.all false
set_option maxRecDepth 100000
set_option maxHeartbeats 2000000
/-! SxRules: each construct's semantics and its rule. -/
namespace Sx
open PySem PySem.Spec L2
open PyProof.Rows hiding St
abbrev JE (X : Cx) (cm : Nat → Addr) (W : XW) (e : Expr) (f : SE) : Prop := PE X e (tE X.K cm W f)
abbrev JA (X : Cx) (cm : Nat → Addr) (W : XW) (e : List Expr) (f : SA) : Prop := PA X e (tA X.K cm W f)
abbrev JT (X : Cx) (cm : Nat → Addr) (W : XW) (e : Expr) (f : ST) : Prop := PT X e (tT X.K cm W f)
abbrev JW (X : Cx) (cm : Nat → Addr) (W : XW) (e : Expr) (f : ST) : Prop := PW X e (tT X.K cm W f)
abbrev JS (X : Cx) (cm : Nat → Addr) (W : XW) (e : Stmt) (f : SS) : Prop := PS X e (tSt X.K cm W f)
abbrev JB (X : Cx) (cm : Nat → Addr) (W : XW) (e : List Stmt) (f : SS) : Prop := PSs X e (tSt X.K cm W f)

/-! ### the semantics' combinators -/
def sC (v : Val) : SE := fun _ h => .ok v h
def sVar (i : Nat) : SE := fun sv h => match sv[i]? with
  | some (some v) => .ok v h
  | _ => .bad
def sBin (g : Val → Val → Hv → R Val) (a b : SE) : SE := fun sv h => (a sv h).bind fun x h1 => (b sv h1).bind fun y h2 => g x y h2
def sUn (g : Val → Hv → R Val) (a : SE) : SE := fun sv h => (a sv h).bind g
def sNil : SA := fun _ h => .ok [] h
def sCons (a : SE) (r : SA) : SA := fun sv h => (a sv h).bind fun x h1 => (r sv h1).bind fun xs h2 => .ok (x :: xs) h2
def sCall (F : SF) (a : SA) : SE := fun sv h => (a sv h).bind F
def sTup (a : SA) : SE := fun sv h => (a sv h).bind fun vs h1 => if vs.length ≤ 16777216 then .ok (.tup vs) h1 else .bad
def sLst (a : SA) : SE := fun sv h => (a sv h).bind fun vs h1 => if vs.length ≤ 16777216 then .ok (.fl vs) h1 else .bad
/-- a list that is to be changed: a new cell -/
def sLstN (a : SA) : SE := fun sv h => (a sv h).bind fun vs h1 => if vs.length ≤ 16777216 then .ok (.ref h1.length) (h1 ++ [.lst vs]) else .bad
def sIf (c : ST) (a b : SE) : SE := fun sv h => (c sv h).bind fun k h1 => if k = true then a sv h1 else b sv h1
/-- an expression's value that is True or False, as a test -/
def sTest (a : SE) : ST := fun sv h => (a sv h).bind fun v h1 => match v with
  | .bl b => .ok b h1
  | _ => .bad
def sChain (g g' : Val → Val → Hv → R Val) (a b c : SE) : SE := fun sv h => (a sv h).bind fun x h1 => (b sv h1).bind fun y h2 => (g x y h2).bind fun z h3 => match z with
  | .bl true => (c sv h3).bind fun w h4 => g' y w h4
  | .bl false => .ok (.bl false) h3
  | _ => .bad
def tAnd' (a b : ST) : ST := fun sv h => (a sv h).bind fun k h1 => if k = true then b sv h1 else .ok false h1
def tOr' (a b : ST) : ST := fun sv h => (a sv h).bind fun k h1 => if k = true then .ok true h1 else b sv h1
def tNot' (a : ST) : ST := fun sv h => (a sv h).bind fun k h1 => .ok (!k) h1
/-- and, or, not as values, of True and False alone -/
def sAnd (a b : SE) : SE := fun sv h => (a sv h).bind fun v h1 => match v with
  | .bl true => b sv h1
  | .bl false => .ok (.bl false) h1
  | _ => .bad
def sOr (a b : SE) : SE := fun sv h => (a sv h).bind fun v h1 => match v with
  | .bl true => .ok (.bl true) h1
  | .bl false => b sv h1
  | _ => .bad
def sNotV (a : SE) : SE := fun sv h => (a sv h).bind fun v h1 => match v with
  | .bl k => .ok (.bl (!k)) h1
  | _ => .bad
def sSkip : SS := fun sv h => .ok (.nx sv) h
def sSeq (a b : SS) : SS := fun sv h => (a sv h).bind fun f h1 => match f with
  | .nx s => b s h1
  | f => .ok f h1
def sSet (i : Nat) (a : SE) : SS := fun sv h => (a sv h).bind fun v h1 => .ok (.nx (sv.set i (some v))) h1
def sRet (a : SE) : SS := fun sv h => (a sv h).bind fun v h1 => .ok (.rt v) h1
def sRetN : SS := fun _ h => .ok (.rt .non) h
def sExpr (a : SE) : SS := fun sv h => (a sv h).bind fun _ h1 => .ok (.nx sv) h1
def sIte (c : ST) (a b : SS) : SS := fun sv h => (c sv h).bind fun k h1 => if k = true then a sv h1 else b sv h1
def sBrk : SS := fun sv h => .ok (.bk sv) h
def sCnt : SS := fun sv h => .ok (.ct sv) h
def sWhile (c : ST) (b : SS) : Nat → SS
  | 0 => fun _ _ => .bad
  | n + 1 => fun sv h => (c sv h).bind fun k h1 => if k = true then (b sv h1).bind fun f h2 => (match f with
      | .nx s => sWhile c b n s h2
      | .ct s => sWhile c b n s h2
      | .bk s => .ok (.nx s) h2
      | .rt v => .ok (.rt v) h2) else .ok (.nx sv) h1
abbrev SI := Env → Hv → R (List Val)
def sForL (g : SG) (b : SS) : List Val → SS
  | [] => fun sv h => .ok (.nx sv) h
  | v :: vs => fun sv h => (g v sv h).bind fun s1 h1 => (b s1 h1).bind fun f h2 => match f with
      | .nx s => sForL g b vs s h2
      | .ct s => sForL g b vs s h2
      | .bk s => .ok (.nx s) h2
      | .rt v => .ok (.rt v) h2
def sFor (it : SI) (g : SG) (b : SS) : SS := fun sv h => (it sv h).bind fun xs h1 => sForL g b xs sv h1
def wipeE (sv : Env) : List Nat → Env
  | [] => sv
  | v :: vs => (wipeE sv vs).set v none
def sLcL (g : SG) (t : ST) (e : SE) (sv : Env) : Nat → List Val → Hv → R (List Val)
  | _, [], h => .ok [] h
  | n, v :: vs, h => (g v sv h).bind fun s1 h1 => (t s1 h1).bind fun k h2 => if k = true then (e s1 h2).bind fun y h3 => if n < 16777216 then (sLcL g t e sv (n + 1) vs h3).bind fun ys h4 => .ok (y :: ys) h4 else .bad else sLcL g t e sv n vs h2
/-- outer results as inner ones: an exception is none -/
def noX {α : Type} : R α → R α
  | .exc _ _ _ => .bad
  | r => r
/-- a comprehension: its list is not changed again -/
def sLc (own : List Nat) (it : SI) (g : SG) (t : ST) (e : SE) : SE := fun sv h => (it sv h).bind fun xs h1 => noX ((sLcL g t e (wipeE sv own) 0 xs h1).bind fun ys h2 => .ok (.fl ys) h2)
def tTrue : ST := fun _ h => .ok true h
/-- a cell's list is taken out of the cells: it is not changed again -/
def frz : Val → Hv → R Val
  | .ref i, h => match h[i]? with
    | some (.lst vs) => .ok (.fl vs) (h.set i .dead)
    | _ => .bad
  | v, h => .ok v h
def sFrz (a : SE) : SE := fun sv h => (a sv h).bind frz
/-- the same of a name -/
def sFrzV (i : Nat) : SS := fun sv h => (sVar i sv h).bind fun v h1 => (frz v h1).bind fun u h2 => .ok (.nx (sv.set i (some u))) h2
def gNm (i : Nat) : SG := fun v sv h => .ok (sv.set i (some v)) h
def gTp (is : List Nat) : SG := fun v sv h => match v with
  | .tup vs => if vs.length = is.length then .ok ((is.zip vs).foldl (fun s p => s.set p.1 (some p.2)) sv) h else .bad
  | _ => .bad
def sAsg (a : SE) (g : SG) : SS := fun sv h => (a sv h).bind fun v h1 => (g v sv h1).bind fun s h2 => .ok (.nx s) h2
/-- more turns than any loop does -/
def bigN : Nat := 1000000000000
/-- a def's body: n arguments, k names -/
def sFn (n k : Nat) (b : SS) : SF := fun us h => if us.length = n then (match b (us.map some ++ List.replicate (k - n) none) h with
    | .ok (.rt v) h1 => .ok v h1
    | .ok (.nx _) h1 => .ok .non h1
    | .ok _ _ => .bad
    | .exc c v h1 => .exc c v h1
    | .bad => .bad) else .bad

/-! ### the rules -/
section
variable {X : Cx} {cm : Nat → Addr} {W : XW} {pos : Pos} {e a b c : Expr} {es : List Expr} {fa fb fc : SE} {fs : SA}
theorem je_c {w : V} {v : Val} (h : PE X e (tC w)) (hv : ∀ S, VRel X.K S v w) : JE X cm W e (sC v) := PE.imp h fun σ H Q ⟨S, sv, e, M, r, p⟩ => by
  subst e
  exact p.here M _ (hv S)
theorem je_int {i : Int} {j} : JE X cm W (.Constant (.int i) j pos) (sC (.int i)) := je_c pe_int fun _ => rfl
theorem je_bl {i : Bool} {j} : JE X cm W (.Constant (.bool i) j pos) (sC (.bl i)) := je_c pe_bl fun _ => rfl
theorem je_non {j} : JE X cm W (.Constant .none j pos) (sC .non) := je_c pe_non fun _ => rfl
theorem je_str {x : Str} {j} {l : List Nat} (h : x.cps.toList = l) : JE X cm W (.Constant (.str x) j pos) (sC (.str l)) := je_c pe_str fun _ => ⟨x, rfl, h⟩
theorem je_glob {x : Str} {v : Val} {w : V} {u : Value} (hg : Gl X x) (hm : X.mg x = some u) (r : RelV w u) (hv : ∀ S, VRel X.K S v w) (hd : (x == ("__debug__" : Str)) = false := by decide) : JE X cm W (.Name x pos) (sC v) :=
  je_c (pe_glob hg hm r hd) hv
theorem je_var (i : Nat) {x : Str} (hN : X.N[i]? = some x := by rfl) (hv : Vis X.env.scope x := by first | exact Or.inl rfl | exact Or.inr (Or.inl rfl) | exact Or.inr (Or.inr rfl)) (hd : (x == ("__debug__" : Str)) = false := by decide)
    (hcd : (x == ("__classdict__" : Str)) = false := by decide) : JE X cm W (.Name x pos) (sVar i) := PE.imp (pe_var hN hv hd hcd) fun σ H Q ⟨S, sv, e, M, r, p⟩ => by
  subst e
  unfold sVar at p
  cases q : sv[i]? with
  | none => rw [q] at p; exact p.elim
  | some o =>
    cases o with
    | none => rw [q] at p; exact p.elim
    | some v =>
      rw [q] at p
      obtain ⟨w, h1, h2⟩ := r.2 i v q
      exact ⟨w, h1, p.here M w h2⟩
theorem je_bin {op : Operator} {r : R2} {g : Val → Val → Hv → R Val} (ho : OpR X (binaryOp op) r) (hs : OpS X.K cm W r g) (ha : JE X cm W a fa) (hb : JE X cm W b fb) : JE X cm W (.BinOp a op b pos) (sBin g fa fb) :=
  PE.imp (pe_op ho ha hb) fun σ H Q ⟨S, sv, e, M, r, p⟩ => by
    subst e
    refine ⟨S, sv, rfl, M, r, Post.bind p fun x S1 e1 M1 p1 w1 r1 => ?_⟩
    refine ⟨S1, sv, rfl, M1, r.ext e1, Post.bind p1 fun y S2 e2 M2 p2 w2 r2 => ?_⟩
    exact hs S2 x y w1 w2 Q M2 (VRel.ext e2 x r1) r2 p2
theorem je_cmp {op : CmpOp} {r : R2} {g : Val → Val → Hv → R Val} (ho : OpR X (compareOp op) r) (hs : OpS X.K cm W r g) (ha : JE X cm W a fa) (hb : JE X cm W b fb) (hm : behindInMarks op b = false) : JE X cm W (.Compare a [op] [b] pos) (sBin g fa fb) :=
  PE.imp (pe_cmpR ho ha hb hm) fun σ H Q ⟨S, sv, e, M, r, p⟩ => by
    subst e
    refine ⟨S, sv, rfl, M, r, Post.bind p fun x S1 e1 M1 p1 w1 r1 => ?_⟩
    refine ⟨S1, sv, rfl, M1, r.ext e1, Post.bind p1 fun y S2 e2 M2 p2 w2 r2 => ?_⟩
    exact hs S2 x y w1 w2 Q M2 (VRel.ext e2 x r1) r2 p2
theorem jt_cmp {op : CmpOp} {r : R2} {g : Val → Val → Hv → R Val} (ho : OpR X (compareOp op) r) (hs : OpS X.K cm W r g) (ha : JE X cm W a fa) (hb : JE X cm W b fb) (hm : behindInMarks op b = false) : JT X cm W (.Compare a [op] [b] pos) (sTest (sBin g fa fb)) :=
  PT.imp (pt_cmpR ho ha hb hm) fun σ H Q ⟨S, sv, e, M, r, p⟩ => by
    subst e
    have p : Post X.K cm W S ((sBin g fa fb sv S.h).bind fun v h1 => match v with | .bl b => R.ok b h1 | _ => .bad) fun b S' => Q b S'.H := p
    have p' := Post.bind (P' := fun v S' => ∀ w, VRel X.K S' v w → ∃ k, w = .bl k ∧ Q k S'.H) p fun v S1 e1 M1 p1 w rw' => by
      cases v with
      | bl k => exact ⟨k, rw', p1.here M1⟩
      | _ => exact p1.elim
    refine ⟨S, sv, rfl, M, r, Post.bind p' fun x S1 e1 M1 p1 w1 r1 => ?_⟩
    refine ⟨S1, sv, rfl, M1, r.ext e1, Post.bind p1 fun y S2 e2 M2 p2 w2 r2 => ?_⟩
    exact hs S2 x y w1 w2 _ M2 (VRel.ext e2 x r1) r2 p2
theorem je_un {op : UnaryOp} {r : V → Hp → VK → Prop} {g : Val → Hv → R Val} (ho : UnR X (unaryOp op) r) (hs : UnS X.K cm W r g) (ha : JE X cm W a fa) : JE X cm W (.UnaryOp op a pos) (sUn g fa) :=
  PE.imp (pe_un ho ha) fun σ H Q ⟨S, sv, e, M, r, p⟩ => by
    subst e
    exact ⟨S, sv, rfl, M, r, Post.bind p fun x S1 e1 M1 p1 w1 r1 => hs S1 x w1 Q M1 r1 p1⟩
theorem chain_post {r r' : R2} {g g' : Val → Val → Hv → R Val} (hs : OpS X.K cm W r g) (hs' : OpS X.K cm W r' g') {σ : L2.St} {S : Sn} {sv : Env} {Q : VK} (M : MR X.K cm S) (rr : SRel X.K S sv σ)
    (p : Post X.K cm W S (sChain g g' fa fb fc sv S.h) fun v S' => ∀ w, VRel X.K S' v w → Q w S'.H) : tChain r r' (tE X.K cm W fa) (tE X.K cm W fb) (tE X.K cm W fc) σ S.H Q := by
  refine ⟨S, sv, rfl, M, rr, Post.bind p fun x S1 e1 M1 p1 w1 r1 => ?_⟩
  refine ⟨S1, sv, rfl, M1, rr.ext e1, Post.bind p1 fun y S2 e2 M2 p2 w2 r2 => ?_⟩
  refine hs S2 x y w1 w2 _ M2 (VRel.ext e2 x r1) r2 (Post.bind p2 fun z S3 e3 M3 p3 w3 r3 => ?_)
  cases z with
  | bl k =>
    refine ⟨k, r3, ?_⟩
    cases k with
    | true =>
      rw [if_pos rfl]
      exact ⟨S3, sv, rfl, M3, rr.ext (e1.trans (e2.trans e3)), Post.bind p3 fun u S4 e4 M4 p4 w4 r4 => hs' S4 y u w2 w4 Q M4 (VRel.ext (e3.trans e4) y r2) r4 p4⟩
    | false =>
      rw [if_neg Bool.false_ne_true]
      exact p3.here M3 _ rfl
  | _ => exact p3.elim
theorem je_chain {op op' : CmpOp} {r r' : R2} {g g' : Val → Val → Hv → R Val} (ho : OpR X (compareOp op) r) (hs : OpS X.K cm W r g) (ho' : OpR X (compareOp op') r') (hs' : OpS X.K cm W r' g')
    (ha : JE X cm W a fa) (hb : JE X cm W b fb) (hc : JE X cm W c fc) (hm : lastMarks [op, op'] [b, c] = false := by with_unfolding_all rfl) : JE X cm W (.Compare a [op, op'] [b, c] pos) (sChain g g' fa fb fc) :=
  PE.imp (pe_chain ho ho' ha hb hc hm) fun σ H Q ⟨S, sv, e, M, rr, p⟩ => by
    subst e
    exact chain_post hs hs' M rr p
theorem jt_chain {op op' : CmpOp} {r r' : R2} {g g' : Val → Val → Hv → R Val} (ho : OpR X (compareOp op) r) (hs : OpS X.K cm W r g) (ho' : OpR X (compareOp op') r') (hs' : OpS X.K cm W r' g')
    (ha : JE X cm W a fa) (hb : JE X cm W b fb) (hc : JE X cm W c fc) (hm : lastMarks [op, op'] [b, c] = false := by with_unfolding_all rfl) : JT X cm W (.Compare a [op, op'] [b, c] pos) (sTest (sChain g g' fa fb fc)) :=
  PT.imp (pt_chain ho ho' ha hb hc hm) fun σ H Q ⟨S, sv, e, M, rr, p⟩ => by
    subst e
    have p : Post X.K cm W S ((sChain g g' fa fb fc sv S.h).bind fun v h1 => match v with | .bl b => R.ok b h1 | _ => .bad) fun b S' => Q b S'.H := p
    have p' := Post.bind (P' := fun v S' => ∀ w, VRel X.K S' v w → ∃ k, w = .bl k ∧ Q k S'.H) p fun v S1 e1 M1 p1 w rw' => by
      cases v with
      | bl k => exact ⟨k, rw', p1.here M1⟩
      | _ => exact p1.elim
    exact chain_post hs hs' M rr p'
/-! argument lists, displays -/
theorem ja_nil : JA X cm W [] sNil := PA.imp pa_nil fun σ H Q ⟨S, sv, e, M, r, p⟩ => by
  subst e
  exact p.here M _ VRels.nil
theorem ja_cons (ha : JE X cm W e fa) (hr : JA X cm W es fs) (hs : starEach (e :: es) X.env = (false, eval e X.env) :: starEach es X.env := by rfl) : JA X cm W (e :: es) (sCons fa fs) :=
  PA.imp (pa_cons ha hr hs) fun σ H Q ⟨S, sv, e, M, r, p⟩ => by
    subst e
    refine ⟨S, sv, rfl, M, r, Post.bind p fun x S1 e1 M1 p1 w1 r1 => ?_⟩
    refine ⟨S1, sv, rfl, M1, r.ext e1, Post.bind p1 fun xs S2 e2 M2 p2 ws r2 => ?_⟩
    exact p2.here M2 _ (VRels.cons (VRel.ext e2 x r1) r2)
theorem Post.ite {K : PySem.W.Frag} {S : Sn} {α : Type} {c : Prop} [Decidable c] {r : R α} {P : α → Sn → Prop} (h : Post K cm W S (if c then r else .bad) P) : c ∧ Post K cm W S r P := by
  by_cases k : c
  · rw [if_pos k] at h; exact ⟨k, h⟩
  · rw [if_neg k] at h; exact h.elim
/-- an immutable thing that was just laid -/
theorem Post.laid {K : PySem.W.Frag} {S : Sn} {α : Type} {v : α} {P : α → Sn → Prop} (h : Post K cm W S (.ok v S.h) P) (M : MR K cm S) {p : Addr} (hp : S.H p = none) (o : HO) : P v (S.lay p o) := h (S.lay p o) rfl (ext_lay M hp o) (mr_lay M hp o)
theorem vrel_tup {K : PySem.W.Frag} {S : Sn} {vs : List Val} {ws : List V} (M : MR K cm S) {p : Addr} (hp : S.H p = none) (r : VRels K S vs ws) : VRel K (S.lay p (.tup ws)) (.tup vs) (.ref p) :=
  ⟨p, ws, rfl, .inl ⟨upd_same, fun a => not_al M hp a⟩, VRels.ext (ext_lay M hp _) vs r⟩
theorem vrel_fl {K : PySem.W.Frag} {S : Sn} {vs : List Val} {ws : List V} (M : MR K cm S) {p : Addr} (hp : S.H p = none) (r : VRels K S vs ws) : VRel K (S.lay p (.lst ws)) (.fl vs) (.ref p) :=
  ⟨p, ws, rfl, ⟨upd_same, fun a => not_al M hp a⟩, VRels.ext (ext_lay M hp _) vs r⟩
theorem je_tup {x1} (h : JA X cm W es fs) : JE X cm W (.Tuple es x1 pos) (sTup fs) := PE.imp (pe_tup h) fun σ H Q ⟨S, sv, e, M, r, p⟩ => by
  subst e
  refine ⟨S, sv, rfl, M, r, Post.bind p fun vs S1 e1 M1 p1 ws r1 => ?_⟩
  obtain ⟨hl, p1⟩ := Post.ite p1
  exact ⟨by rw [← r1.length, sizeLine_eq]; exact hl, fun q hq => p1.laid M1 hq (.tup ws) _ (vrel_tup M1 hq r1)⟩
theorem je_lst (h : JA X cm W es fs) : JE X cm W (.List es pos) (sLst fs) := PE.imp (pe_lst h) fun σ H Q ⟨S, sv, e, M, r, p⟩ => by
  subst e
  refine ⟨S, sv, rfl, M, r, Post.bind p fun vs S1 e1 M1 p1 ws r1 => ?_⟩
  obtain ⟨hl, p1⟩ := Post.ite p1
  exact ⟨by rw [← r1.length, sizeLine_eq]; exact hl, fun q hq => p1.laid M1 hq (.lst ws) _ (vrel_fl M1 hq r1)⟩
/-- a new cell -/
theorem Post.newd {K : PySem.W.Frag} {S : Sn} {vs : List Val} {ws : List V} {P : Val → Sn → Prop} (h : Post K cm W S (.ok (.ref S.h.length) (S.h ++ [.lst vs])) P) (M : MR K cm S) {p : Addr} (hp : S.H p = none) (r : VRels K S vs ws) :
    P (.ref S.h.length) (S.new p (.lst ws) (.lst vs)) ∧ VRel K (S.new p (.lst ws) (.lst vs)) (.ref S.h.length) (.ref p) :=
  ⟨h _ rfl (ext_new M hp _ _) (mr_new M hp ⟨ws, upd_same, VRels.ext (ext_new M hp _ _) vs r⟩), ⟨p, rfl, by show (S.m ++ [p])[S.h.length]? = some p; rw [← M.len]; simp⟩⟩
theorem je_lstN (h : JA X cm W es fs) : JE X cm W (.List es pos) (sLstN fs) := PE.imp (pe_lst h) fun σ H Q ⟨S, sv, e, M, r, p⟩ => by
  subst e
  refine ⟨S, sv, rfl, M, r, Post.bind p fun vs S1 e1 M1 p1 ws r1 => ?_⟩
  obtain ⟨hl, p1⟩ := Post.ite p1
  refine ⟨by rw [← r1.length, sizeLine_eq]; exact hl, fun q hq => ?_⟩
  obtain ⟨z, y⟩ := p1.newd M1 hq r1
  exact z _ y
/-! tests -/
theorem jt_val (ha : JE X cm W a fa) (he : ∀ whole, isTrue a X.env whole = (do let v ← whole; standAt a.pos; holding [v] (truthy v))) : JT X cm W a (sTest fa) := PT.imp (pt_truth ha he) fun σ H Q ⟨S, sv, e, M, r, p⟩ => by
  subst e
  refine ⟨S, sv, rfl, M, r, Post.bind p fun v S1 e1 M1 p1 w r1 => ?_⟩
  cases v with
  | bl k => exact ⟨k, by subst r1; rfl, p1.here M1⟩
  | _ => exact p1.elim
theorem jw_and1 {ta : ST} (h : JT X cm W a ta) : JW X cm W (.BoolOp .And [a] pos) ta := pw_and1 h
theorem jw_or1 {ta : ST} (h : JT X cm W a ta) : JW X cm W (.BoolOp .Or [a] pos) ta := pw_or1 h
theorem jw_and {ta tb : ST} {rest : List Expr} (ha : JT X cm W a ta) (hb : JW X cm W (.BoolOp .And (b :: rest) pos) tb) : JW X cm W (.BoolOp .And (a :: b :: rest) pos) (tAnd' ta tb) := PW.imp (pw_and ha hb) fun σ H Q ⟨S, sv, e, M, r, p⟩ => by
  subst e
  refine ⟨S, sv, rfl, M, r, Post.bind p fun k S1 e1 M1 p1 => ?_⟩
  cases k with
  | true => rw [if_pos rfl] at p1 ⊢; exact ⟨S1, sv, rfl, M1, r.ext e1, p1⟩
  | false => rw [if_neg Bool.false_ne_true] at p1 ⊢; exact p1.here M1
theorem jw_or {ta tb : ST} {rest : List Expr} (ha : JT X cm W a ta) (hb : JW X cm W (.BoolOp .Or (b :: rest) pos) tb) : JW X cm W (.BoolOp .Or (a :: b :: rest) pos) (tOr' ta tb) := PW.imp (pw_or ha hb) fun σ H Q ⟨S, sv, e, M, r, p⟩ => by
  subst e
  refine ⟨S, sv, rfl, M, r, Post.bind p fun k S1 e1 M1 p1 => ?_⟩
  cases k with
  | true => rw [if_pos rfl] at p1 ⊢; exact p1.here M1
  | false => rw [if_neg Bool.false_ne_true] at p1 ⊢; exact ⟨S1, sv, rfl, M1, r.ext e1, p1⟩
theorem jt_w {t : ST} (h : JW X cm W a t) : JT X cm W a t := PW.pt h
theorem jt_not {ta : ST} (h : JT X cm W a ta) : JT X cm W (.UnaryOp .Not a pos) (tNot' ta) := PT.imp (pt_not h) fun σ H Q ⟨S, sv, e, M, r, p⟩ => by
  subst e
  exact ⟨S, sv, rfl, M, r, Post.bind p fun k S1 e1 M1 p1 => p1.here M1⟩
theorem je_one {op} (h : JE X cm W a fa) : JE X cm W (.BoolOp op [a] pos) fa := pe_one h
theorem je_and {rest : List Expr} (ha : JE X cm W a fa) (hb : JE X cm W (.BoolOp .And (b :: rest) pos) fb) : JE X cm W (.BoolOp .And (a :: b :: rest) pos) (sAnd fa fb) := PE.imp (pe_and ha hb) fun σ H Q ⟨S, sv, e, M, r, p⟩ => by
  subst e
  refine ⟨S, sv, rfl, M, r, Post.bind p fun v S1 e1 M1 p1 w r1 => ?_⟩
  cases v with
  | bl k =>
    refine ⟨k, r1, ?_⟩
    cases k with
    | true => rw [if_pos rfl]; exact ⟨S1, sv, rfl, M1, r.ext e1, p1⟩
    | false => rw [if_neg Bool.false_ne_true]; exact p1.here M1 _ rfl
  | _ => exact p1.elim
theorem je_or {rest : List Expr} (ha : JE X cm W a fa) (hb : JE X cm W (.BoolOp .Or (b :: rest) pos) fb) : JE X cm W (.BoolOp .Or (a :: b :: rest) pos) (sOr fa fb) := PE.imp (pe_or ha hb) fun σ H Q ⟨S, sv, e, M, r, p⟩ => by
  subst e
  refine ⟨S, sv, rfl, M, r, Post.bind p fun v S1 e1 M1 p1 w r1 => ?_⟩
  cases v with
  | bl k =>
    refine ⟨k, r1, ?_⟩
    cases k with
    | false => rw [if_neg Bool.false_ne_true]; exact ⟨S1, sv, rfl, M1, r.ext e1, p1⟩
    | true => rw [if_pos rfl]; exact p1.here M1 _ rfl
  | _ => exact p1.elim
theorem je_notV (ha : JE X cm W a fa) : JE X cm W (.UnaryOp .Not a pos) (sNotV fa) := PE.imp (pe_not ha) fun σ H Q ⟨S, sv, e, M, r, p⟩ => by
  subst e
  refine ⟨S, sv, rfl, M, r, Post.bind p fun v S1 e1 M1 p1 w r1 => ?_⟩
  cases v with
  | bl k => exact ⟨k, r1, p1.here M1 _ rfl⟩
  | _ => exact p1.elim
theorem je_if {tc : ST} (hc : JT X cm W c tc) (ha : JE X cm W a fa) (hb : JE X cm W b fb) : JE X cm W (.IfExp c a b pos) (sIf tc fa fb) := PE.imp (pe_ifExp hc ha hb) fun σ H Q ⟨S, sv, e, M, r, p⟩ => by
  subst e
  refine ⟨S, sv, rfl, M, r, Post.bind p fun k S1 e1 M1 p1 => ?_⟩
  cases k with
  | true => rw [if_pos rfl] at p1 ⊢; exact ⟨S1, sv, rfl, M1, r.ext e1, p1⟩
  | false => rw [if_neg Bool.false_ne_true] at p1 ⊢; exact ⟨S1, sv, rfl, M1, r.ext e1, p1⟩
/-! freezing -/
theorem frz_post {S : Sn} {v : Val} {w : V} {P : Val → Sn → Prop} (M : MR X.K cm S) (r : VRel X.K S v w) (p : Post X.K cm W S (frz v S.h) P) : ∃ u S', S'.H = S.H ∧ Ext S S' ∧ MR X.K cm S' ∧ VRel X.K S' u w ∧ frz v S.h = .ok u S'.h ∧ P u S' := by
  by_cases hr : ∃ i, v = .ref i
  · obtain ⟨i, rfl⟩ := hr
    obtain ⟨q, rfl, hm⟩ := r
    unfold frz at p
    cases hc : S.h[i]? with
    | none => simp only [hc] at p; exact p.elim
    | some cc =>
      cases cc with
      | dead => simp only [hc] at p; exact p.elim
      | lst vs =>
        simp only [hc] at p
        obtain ⟨ws, h1, h2⟩ := M.obj i _ q hc hm
        exact ⟨.fl vs, S.kill i, rfl, ext_kill, mr_kill M i, ⟨q, ws, rfl, ⟨h1, kill_not_al M hm ⟨_, hc, fun z => nomatch z⟩⟩, VRels.ext ext_kill vs h2⟩, by unfold frz; simp only [hc]; rfl, p (S.kill i) rfl ext_kill (mr_kill M i)⟩
  · have e : frz v S.h = .ok v S.h := by
      cases v with
      | ref i => exact (hr ⟨i, rfl⟩).elim
      | _ => rfl
    rw [e] at p
    exact ⟨v, S, rfl, Ext.refl S, M, r, e, p.here M⟩
theorem je_frz (h : JE X cm W a fa) : JE X cm W a (sFrz fa) := PE.imp h fun σ H Q ⟨S, sv, e, M, r, p⟩ => by
  subst e
  refine ⟨S, sv, rfl, M, r, Post.bind p fun v S1 e1 M1 p1 w r1 => ?_⟩
  obtain ⟨u, S2, eH, e2, M2, r2, _, p2⟩ := frz_post M1 r1 p1
  rw [← eH]
  exact p2 w r2
end
end Sx

set_option Elab.async false
set_option linter.all false
set_option maxRecDepth 100000
set_option maxHeartbeats 2000000
/-! SxStmt: statements, loops, comprehensions, defs. -/
namespace Sx
open PySem PySem.Spec L2
open PyProof.Rows hiding St
section
variable {X : Cx} {cm : Nat → Addr} {W : XW} {pos : Pos} {e a b c : Expr} {es : List Expr} {fa fb fc : SE} {fs : SA} {st : Stmt} {sts : List Stmt} {f g : SS}
theorem FlP.nx {K : PySem.W.Frag} {D : Ends} {sv : Env} {S : Sn} (h : FlP K D (.nx sv) S) {σ : L2.St} (r : SRel K S sv σ) : D.nx σ S.H := h σ r
theorem jb_nil : JB X cm W [] sSkip := PSs.imp pss_nil fun D σ H ⟨S, sv, e, M, r, p⟩ => by
  subst e
  exact p.here M σ r
theorem seq_post {D : Ends} {S : Sn} {r0 : R Fl} {k : Env → Hv → R Fl} (p : Post X.K cm W S (r0.bind fun f h1 => match f with | .nx s => k s h1 | f => .ok f h1) (FlP X.K D)) {nx' : L2.St → Hp → Prop}
    (hn : ∀ s S1 σ, Ext S S1 → MR X.K cm S1 → SRel X.K S1 s σ → Post X.K cm W S1 (k s S1.h) (FlP X.K D) → nx' σ S1.H) : Post X.K cm W S r0 (FlP X.K { D with nx := nx' }) :=
  Post.bind p fun fl S1 e1 M1 p1 => by
    cases fl with
    | nx s => exact fun σ r1 => hn s S1 σ e1 M1 r1 p1
    | rt v => exact p1.here M1
    | bk s => exact p1.here M1
    | ct s => exact p1.here M1
theorem jb_cons (h1 : JS X cm W st f) (h2 : JB X cm W sts g) : JB X cm W (st :: sts) (sSeq f g) := PSs.imp (pss_cons h1 h2) fun D σ H ⟨S, sv, e, M, r, p⟩ => by
  subst e
  exact ⟨S, sv, rfl, M, r, seq_post (k := g) p fun s S1 σ1 e1 M1 r1 p1 => ⟨S1, s, rfl, M1, r1, p1⟩⟩
theorem jb_one (h1 : JS X cm W st f) : JB X cm W [st] f := pss_one h1
/-- a ghost step ahead of a block -/
theorem jb_frz {i : Nat} (h : JB X cm W sts f) : JB X cm W sts (sSeq (sFrzV i) f) := PSs.imp h fun D σ H ⟨S, sv, e, M, r, p⟩ => by
  subst e
  unfold sSeq sFrzV sVar at p
  cases q : sv[i]? with
  | none => simp only [q] at p; exact p.elim
  | some o =>
    cases o with
    | none => simp only [q] at p; exact p.elim
    | some v =>
      simp only [q, bind_ok] at p
      obtain ⟨w, h1, h2⟩ := r.2 i v q
      have p' : Post X.K cm W S (frz v S.h) fun u S1 => Post X.K cm W S1 (f (sv.set i (some u)) S1.h) (FlP X.K D) := by
        generalize hz : frz v S.h = z at p
        cases z with
        | ok u h' => exact fun S' e1 e2 M1 => Post.step e2 (by rw [e1]; exact p)
        | exc c vs h' => exact p
        | bad => exact p
      obtain ⟨u, S2, eH, e2, M2, r2, _, p2⟩ := frz_post M h2 p'
      refine ⟨S2, sv.set i (some u), eH, M2, ?_, p2⟩
      have r3 := (r.ext e2).set r2 i
      have es : σ.set i (some w) = σ := by
        apply List.ext_getElem?
        intro j
        by_cases ij : i = j
        · subst ij
          have hl : i < σ.length := (List.getElem?_eq_some_iff.mp h1).1
          rw [List.getElem?_set_self hl, h1]
        · rw [List.getElem?_set_ne ij]
      rw [es] at r3
      exact r3
theorem js_pass : JS X cm W (.Pass pos) sSkip := PS.imp ps_pass fun D σ H ⟨S, sv, e, M, r, p⟩ => by
  subst e
  exact p.here M σ r
theorem js_break : JS X cm W (.Break pos) sBrk := PS.imp ps_break fun D σ H ⟨S, sv, e, M, r, p⟩ => by
  subst e
  exact p.here M σ r
theorem js_continue : JS X cm W (.Continue pos) sCnt := PS.imp ps_continue fun D σ H ⟨S, sv, e, M, r, p⟩ => by
  subst e
  exact p.here M σ r
theorem js_doc {x j pos'} : JS X cm W (.Expr (.Constant (.str x) j pos) pos') sSkip := PS.imp ps_doc fun D σ H ⟨S, sv, e, M, r, p⟩ => by
  subst e
  exact p.here M σ r
theorem js_expr (he : JE X cm W e fa) (hs : swapsWith e none pos.line X.env = pure false := by rfl) : JS X cm W (.Expr e pos) (sExpr fa) := PS.imp (ps_expr he hs) fun D σ H ⟨S, sv, e, M, r, p⟩ => by
  subst e
  exact ⟨S, sv, rfl, M, r, Post.bind p fun v S1 e1 M1 p1 w r1 => p1.here M1 σ (r.ext e1)⟩
theorem js_ret (he : JE X cm W e fa) : JS X cm W (.Return (some e) pos) (sRet fa) := PS.imp (ps_ret he) fun D σ H ⟨S, sv, e, M, r, p⟩ => by
  subst e
  exact ⟨S, sv, rfl, M, r, Post.bind p fun v S1 e1 M1 p1 w r1 => p1.here M1 w r1⟩
theorem js_retN : JS X cm W (.Return none pos) sRetN := PS.imp ps_retN fun D σ H ⟨S, sv, e, M, r, p⟩ => by
  subst e
  exact p.here M .non rfl
theorem js_if {tc : ST} {as bs : List Stmt} (hc : JT X cm W c tc) (ha : JB X cm W as f) (hb : JB X cm W bs g) : JS X cm W (.If c as bs pos) (sIte tc f g) := PS.imp (ps_if hc ha hb) fun D σ H ⟨S, sv, e, M, r, p⟩ => by
  subst e
  refine ⟨S, sv, rfl, M, r, Post.bind p fun k S1 e1 M1 p1 => ?_⟩
  cases k with
  | true => rw [if_pos rfl] at p1 ⊢; exact ⟨S1, sv, rfl, M1, r.ext e1, p1⟩
  | false => rw [if_neg Bool.false_ne_true] at p1 ⊢; exact ⟨S1, sv, rfl, M1, r.ext e1, p1⟩
theorem js_set {i : Nat} {x : Str} {pos' : Pos} (hN : X.N.Nodup) (hi : X.N[i]? = some x) (hx : Loc X.env.scope x) (he : JE X cm W e fa) (hs : swapsWith e (some (.Name x pos')) pos.line X.env = pure false := by rfl) (hf : X.fn x = true ∨ X.env.scope.names.lookup x = some .local := by first | exact .inl rfl | exact .inr rfl | assumption) :
    JS X cm W (.Assign [.Name x pos'] e pos) (sSet i fa) := PS.imp (ps_set hN hi hx he hs hf) fun D σ H ⟨S, sv, e, M, r, p⟩ => by
  subst e
  exact ⟨S, sv, rfl, M, r, Post.bind p fun v S1 e1 M1 p1 w r1 => p1.here M1 _ ((r.ext e1).set r1 i)⟩
/-! ### targets -/
/-- a target's reading; own: the names it stores -/
def tGw (K : PySem.W.Frag) (cm : Nat → Addr) (W : XW) (own : List Nat) (f : SG) : TG := fun v σ H Q => ∃ S sv u, S.H = H ∧ MR K cm S ∧ SRel K S sv σ ∧ VRel K S u v ∧ Post K cm W S (f u sv S.h) fun sv' S' => ∀ σ', SRel K S' sv' σ' → wipe σ' own = wipe σ own → Q σ' S'.H
theorem wipe_get {i : Nat} {σ : L2.St} : ∀ {vs : List Nat}, (wipe σ vs)[i]? = if i ∈ vs then (σ[i]?).map fun _ => none else σ[i]?
  | [] => by simp [wipe]
  | v :: vs => by
    unfold wipe
    by_cases e : v = i
    · subst e
      have hl := wipe_length σ vs
      by_cases hv : v < σ.length
      · rw [List.getElem?_set_self (by rw [hl]; exact hv)]
        simp [List.getElem?_eq_getElem hv]
      · rw [List.getElem?_eq_none (by simp [hl]; omega)]
        simp [List.getElem?_eq_none (Nat.le_of_not_lt hv)]
    · rw [List.getElem?_set_ne e, wipe_get (vs := vs)]
      have : (i ∈ v :: vs) ↔ i ∈ vs := by
        rw [List.mem_cons]
        exact ⟨fun h => h.resolve_left (fun z => e z.symm), .inr⟩
      simp only [this]
theorem wipe_set {σ : L2.St} {i : Nat} {o : Option V} {own : List Nat} (h : i ∈ own) : wipe (σ.set i o) own = wipe σ own := by
  apply List.ext_getElem?
  intro j
  rw [wipe_get, wipe_get]
  by_cases e : j ∈ own
  · rw [if_pos e, if_pos e]
    by_cases ij : i = j
    · subst ij
      by_cases hl : i < σ.length
      · rw [List.getElem?_set_self hl, List.getElem?_eq_getElem hl]; rfl
      · rw [List.getElem?_eq_none (by simp; omega), List.getElem?_eq_none (by omega)]
    · rw [List.getElem?_set_ne ij]
  · rw [if_neg e, if_neg e, List.getElem?_set_ne (fun z => e (by rw [← z]; exact h))]
abbrev JG (X : Cx) (cm : Nat → Addr) (W : XW) (own : List Nat) (e : Expr) (f : SG) : Prop := PG X e (tGw X.K cm W own f)
theorem jg_name {i : Nat} {x : Str} {own : List Nat} (ho : i ∈ own := by decide) (hN : X.N.Nodup) (hi : X.N[i]? = some x) (hx : Loc X.env.scope x) (hf : X.fn x = true ∨ X.env.scope.names.lookup x = some .local := by first | exact .inl rfl | exact .inr rfl | assumption) :
    JG X cm W own (.Name x pos) (gNm i) := PG.imp (pg_name hN hi hx hf) fun v σ H Q ⟨S, sv, u, e, M, r, ru, p⟩ => by
  subst e
  exact p.here M _ (r.set ru i) (wipe_set ho)
/-- names of a tuple target -/
inductive PNs (X : Cx) (own : List Nat) : List Expr → List Nat → Prop
  | nil : PNs X own [] []
  | cons {x : Str} {i : Nat} {pos : Pos} {es : List Expr} {is : List Nat} (hi : X.N[i]? = some x) (hx : Loc X.env.scope x) (hf : X.fn x = true ∨ X.env.scope.names.lookup x = some .local) (ho : i ∈ own)
      (hs : (assignEach (.Name x pos :: es) X.env).map (·.2) = assign (.Name x pos) X.env :: (assignEach es X.env).map (·.2)) (r : PNs X own es is) : PNs X own (.Name x pos :: es) (i :: is)
def gNames : List Nat → TGs
  | [] => gNil
  | i :: is => gCons (gName i) (gNames is)
theorem PNs.pgs {own : List Nat} (hN : X.N.Nodup) : ∀ {es : List Expr} {is : List Nat}, PNs X own es is → PGs X es (gNames is)
  | _, _, .nil => pgs_nil
  | _, _, .cons hi hx hf ho hs r => pgs_cons (pg_name hN hi hx hf) (PNs.pgs hN r) hs
theorem PNs.own {own : List Nat} : ∀ {es : List Expr} {is : List Nat}, PNs X own es is → ∀ i ∈ is, i ∈ own
  | _, _, .nil, _, h => by simp at h
  | _, _, .cons _ _ _ ho _ r, i, h => by
    rcases List.mem_cons.mp h with z | z
    · subst z; exact ho
    · exact r.own i z
theorem names_post {K : PySem.W.Frag} {S : Sn} {own : List Nat} {Q : L2.St → Hp → Prop} : ∀ {is : List Nat} {vs : List Val} {ws : List V} {sv : Env} {σ : L2.St}, vs.length = is.length → (∀ i ∈ is, i ∈ own) → VRels K S vs ws → SRel K S sv σ →
    (∀ σ', SRel K S ((is.zip vs).foldl (fun s p => s.set p.1 (some p.2)) sv) σ' → wipe σ' own = wipe σ own → Q σ' S.H) → gNames is ws σ S.H Q
  | [], vs, ws, sv, σ, hl, _, r, rr, q => by
    have : vs = [] := by simpa using hl
    subst this
    cases r
    exact ⟨rfl, q σ rr rfl⟩
  | i :: is, [], _, _, _, hl, _, _, _, _ => by simp at hl
  | i :: is, v :: vs, _, sv, σ, hl, ho, ⟨w, r', e, h1, h2⟩, rr, q => by
    subst e
    refine ⟨w, r', rfl, names_post (by simpa using hl) (fun j hj => ho j (List.mem_cons_of_mem _ hj)) h2 (rr.set h1 i) fun σ' r2 e2 => q σ' r2 (e2.trans (wipe_set (ho i List.mem_cons_self)))⟩
theorem jg_tup {own is : List Nat} {k : Nat} (hc : X.calm = true) (hN : X.N.Nodup) (h : PNs X own es is) (hn : (assignEach es X.env).length = is.length := by rfl) (hst : (assignEach es X.env).findIdx? (·.1) = none := by rfl) :
    JG X cm W own (.Tuple es k pos) (gTp is) := PG.imp (pg_tup hc (h.pgs hN) hn hst) fun v σ H Q ⟨S, sv, u, e, M, r, ru, p⟩ => by
  subst e
  cases u with
  | tup vs =>
    obtain ⟨q, ws, rfl, hq, hr⟩ := ru
    obtain ⟨hl, p⟩ := Post.ite p
    exact ⟨q, ws, rfl, hq.sq, by rw [← hr.length]; exact hl, names_post hl h.own hr r (p.here M)⟩
  | _ => exact p.elim
theorem js_asg {own : List Nat} {tg : Expr} {gg : SG} (he : JE X cm W e fa) (hg : JG X cm W own tg gg) (hs : swapsWithSole [tg] e pos.line X.env = pure false := by rfl) (hw : swappedStores [tg] e X.env = pure none := by rfl)
    (h1 : (assignEach [tg] X.env).map (·.2) = [assign tg X.env] := by rfl) : JS X cm W (.Assign [tg] e pos) (sAsg fa gg) := PS.imp (ps_asg he hg hs hw h1) fun D σ H ⟨S, sv, e, M, r, p⟩ => by
  subst e
  refine ⟨S, sv, rfl, M, r, Post.bind p fun v S1 e1 M1 p1 w r1 => ?_⟩
  exact ⟨S1, sv, v, rfl, M1, r.ext e1, r1, Post.bind p1 fun s S2 e2 M2 p2 σ' r2 _ => p2.here M2 σ' r2⟩
/-! ### loops -/
theorem js_while {tc : ST} {body : List Stmt} (n : Nat) (hp : PassesOwn (model X.prog X.w) X.A X.env X.xe) (hc : JT X cm W c tc) (hb : JB X cm W body f) : JS X cm W (.While c body [] pos) (sWhile tc f n) := PS.imp (ps_while hp hc hb) fun D σ H ⟨S, sv, e, M, r, p⟩ => by
  subst e
  refine ⟨fun m σ H => ∃ S sv, S.H = H ∧ MR X.K cm S ∧ SRel X.K S sv σ ∧ Post X.K cm W S (sWhile tc f m sv S.h) (FlP X.K D), ⟨n, S, sv, rfl, M, r, p⟩, ?_⟩
  rintro m σ _ ⟨S, sv, rfl, M, r, p⟩
  cases m with
  | zero => exact p.elim
  | succ m =>
    refine ⟨S, sv, rfl, M, r, Post.bind p fun k S1 e1 M1 p1 => ?_⟩
    cases k with
    | false => rw [if_neg Bool.false_ne_true] at p1 ⊢; exact p1.here M1 σ (r.ext e1)
    | true =>
      rw [if_pos rfl] at p1 ⊢
      refine ⟨fun σ' H' => ∃ S sv, S.H = H' ∧ MR X.K cm S ∧ SRel X.K S sv σ' ∧ Post X.K cm W S (sWhile tc f m sv S.h) (FlP X.K D), fun σ' H' h => ⟨m, Nat.lt_succ_self m, h⟩, S1, sv, rfl, M1, r.ext e1, Post.bind p1 fun fl S2 e2 M2 p2 => ?_⟩
      cases fl with
      | nx s => exact fun σ2 r2 => ⟨S2, s, rfl, M2, r2, p2⟩
      | ct s => exact fun σ2 r2 => ⟨S2, s, rfl, M2, r2, p2⟩
      | bk s => exact fun σ2 r2 => p2.here M2 σ2 r2
      | rt v => exact p2.here M2
/-- what a walk yields: the items -/
def Yld (K : PySem.W.Frag) (cm : Nat → Addr) (S0 : Sn) (J : It) (xs : List Val) : Prop := ∀ S, Lift S0 S → MR K cm S → ∀ i, (i = xs.length → J.stop i S.H) ∧ ∀ v, xs[i]? = some v → J.go i S.H ∧ ∀ x H', J.yld i S.H x H' → ∃ S2, S2.H = H' ∧ S2.h = S.h ∧ Ext S S2 ∧ MR K cm S2 ∧ VRel K S2 v x
theorem Yld.ext {K : PySem.W.Frag} {S0 S1 : Sn} {J : It} {xs : List Val} (e : Ext S0 S1) (h : Yld K cm S0 J xs) : Yld K cm S1 J xs := fun S e1 M => h S (e.lift.trans e1) M
def tI (K : PySem.W.Frag) (cm : Nat → Addr) (W : XW) (f : SI) : TI := fun σ H R => ∃ S sv, S.H = H ∧ MR K cm S ∧ SRel K S sv σ ∧ Post K cm W S (f sv S.h) fun xs S' => ∀ J, Yld K cm S' J xs → R J S'.H
theorem PI.imp {X : Cx} {tg e : Expr} {t t' : TI} (h : PI X tg e t) (k : ∀ σ H Q, t' σ H Q → t σ H Q) : PI X tg e t' := ⟨fun pins s σ H Q I q => h.run pins s σ H Q I (k _ _ _ q)⟩
abbrev JI (X : Cx) (cm : Nat → Addr) (W : XW) (tg e : Expr) (f : SI) : Prop := PI X tg e (tI X.K cm W f)
theorem js_for {own : List Nat} {tg iter : Expr} {body : List Stmt} {it : SI} {gg : SG} (hp : PassesOwn (model X.prog X.w) X.A X.env X.xe) (hc : X.calm = true) (hi : JI X cm W tg iter it) (hg : JG X cm W own tg gg) (hb : JB X cm W body f)
    (hs : ∀ x, foldedSetIterable iter X.env x = pure x := by intro _; rfl) : JS X cm W (.For tg iter body [] pos) (sFor it gg f) := PS.imp (ps_for hp hc hi hg hb hs) fun D σ H ⟨S, sv, e, M, r, p⟩ => by
  subst e
  refine ⟨S, sv, rfl, M, r, Post.bind p fun xs S0 e0 M0 p0 J hJ => ?_⟩
  refine ⟨fun i m σ H => m = xs.length - i ∧ i ≤ xs.length ∧ ∃ S sv, S.H = H ∧ Ext S0 S ∧ MR X.K cm S ∧ SRel X.K S sv σ ∧ Post X.K cm W S (sForL gg f (xs.drop i) sv S.h) (FlP X.K D), ⟨xs.length, by simp, Nat.zero_le _, S0, sv, rfl, Ext.refl _, M0, r.ext e0, by simpa using p0⟩, ?_⟩
  rintro i m σ _ ⟨rfl, hi, S, sv, rfl, e, M, r, p⟩
  obtain ⟨y1, y2⟩ := hJ S e.lift M i
  by_cases hlt : i < xs.length
  · obtain ⟨go, y3⟩ := y2 xs[i] (List.getElem?_eq_getElem hlt)
    refine .inr ⟨go, fun σ' H' => ∃ S sv, S.H = H' ∧ Ext S0 S ∧ MR X.K cm S ∧ SRel X.K S sv σ' ∧ Post X.K cm W S (sForL gg f (xs.drop (i + 1)) sv S.h) (FlP X.K D), fun σ' H' h => ⟨xs.length - (i + 1), by omega, rfl, hlt, h⟩, fun x H' hy => ?_⟩
    obtain ⟨S2, rfl, eh, e2, M2, r2⟩ := y3 x H' hy
    rw [List.drop_eq_getElem_cons hlt, ← eh] at p
    refine ⟨S2, sv, xs[i], rfl, M2, r.ext e2, r2, Post.bind (Post.step e2 p) fun s1 S3 e3 M3 p3 σ3 r3 _ => ?_⟩
    refine ⟨S3, s1, rfl, M3, r3, Post.bind p3 fun fl S4 e4 M4 p4 => ?_⟩
    cases fl with
    | nx s => exact fun σ4 r4 => ⟨S4, s, rfl, e.trans (e2.trans (e3.trans e4)), M4, r4, p4⟩
    | ct s => exact fun σ4 r4 => ⟨S4, s, rfl, e.trans (e2.trans (e3.trans e4)), M4, r4, p4⟩
    | bk s => exact fun σ4 r4 => p4.here M4 σ4 r4
    | rt v => exact p4.here M4
  · have ei : i = xs.length := by omega
    refine .inl ⟨y1 ei, ?_⟩
    rw [List.drop_eq_nil_of_le (by omega)] at p
    exact p.here M σ r
/-! ### what is walked -/
def iVal (a : SE) : SI := fun sv h => (a sv h).bind fun v h1 => match v with
  | .tup vs => .ok vs h1
  | .fl vs => .ok vs h1
  | .kl vs => .ok vs h1
  | _ => .bad
def iList' (a : SE) : SI := fun sv h => (a sv h).bind fun v h1 => match v with
  | .fl vs => .ok vs h1
  | .kl vs => .ok vs h1
  | _ => .bad
def iTup' (a : SE) : SI := fun sv h => (a sv h).bind fun v h1 => match v with
  | .tup vs => .ok vs h1
  | _ => .bad
theorem yld_list {K : PySem.W.Frag} {S0 : Sn} {p : Addr} {xs : List Val} {ws : List V} (r : VRels K S0 xs ws) (h : ∀ S, Lift S0 S → SqL K S.H p ws) : Yld K cm S0 (Itl K p) xs := fun S e M i => by
  have q := h S e
  have r' := VRels.lift e xs r
  refine ⟨fun ei => ⟨ws, q, by rw [ei, r'.length]; exact Nat.le_refl _⟩, fun v hv => ?_⟩
  obtain ⟨w, hw, rw'⟩ := r'.get hv
  refine ⟨⟨ws, w, q, hw⟩, fun x H' hy => ?_⟩
  obtain ⟨rfl, hx⟩ := hy
  have ew := hx ws q
  rw [hw] at ew; cases ew
  exact ⟨S, rfl, rfl, Ext.refl S, M, rw'⟩
theorem yld_tup {K : PySem.W.Frag} {S0 : Sn} {p : Addr} {xs : List Val} {ws : List V} (r : VRels K S0 xs ws) (h : ∀ S, Lift S0 S → SqT K S.H p ws) : Yld K cm S0 (Itt K p) xs := fun S e M i => by
  have q := h S e
  have r' := VRels.lift e xs r
  refine ⟨fun ei => ⟨ws, q, by rw [ei, r'.length]; exact Nat.le_refl _⟩, fun v hv => ?_⟩
  obtain ⟨w, hw, rw'⟩ := r'.get hv
  refine ⟨⟨ws, w, q, hw⟩, fun x H' hy => ?_⟩
  obtain ⟨rfl, hx⟩ := hy
  have ew := hx ws q
  rw [hw] at ew; cases ew
  exact ⟨S, rfl, rfl, Ext.refl S, M, rw'⟩
theorem ji_list {tg : Expr} (ha : JE X cm W a fa) : JI X cm W tg a (iList' fa) := PI.imp (pi_list ha) fun σ H Q ⟨S, sv, e, M, r, p⟩ => by
  subst e
  refine ⟨S, sv, rfl, M, r, Post.bind p fun v S1 e1 M1 p1 w r1 => ?_⟩
  cases v with
  | fl vs =>
    obtain ⟨q, ws, rfl, hq, hr⟩ := r1
    exact ⟨q, rfl, ⟨ws, hq.sq⟩, p1.here M1 _ (yld_list hr fun S' e' => (hq.lift e').sq)⟩
  | kl vs =>
    obtain ⟨q, ws, rfl, hq, hr⟩ := r1
    exact ⟨q, rfl, ⟨ws, hq.sq⟩, p1.here M1 _ (yld_list hr fun S' e' => (hq.lift e').sq)⟩
  | _ => exact p1.elim
theorem ji_tup {tg : Expr} (ha : JE X cm W a fa) : JI X cm W tg a (iTup' fa) := PI.imp (pi_tup ha) fun σ H Q ⟨S, sv, e, M, r, p⟩ => by
  subst e
  refine ⟨S, sv, rfl, M, r, Post.bind p fun v S1 e1 M1 p1 w r1 => ?_⟩
  cases v with
  | tup vs =>
    obtain ⟨q, ws, rfl, hq, hr⟩ := r1
    exact ⟨q, rfl, ⟨ws, hq.sq⟩, p1.here M1 _ (yld_tup hr fun S' e' => (hq.lift e').sq)⟩
  | _ => exact p1.elim
def rangeV (lo : Int) (n : Nat) : List Val := (List.range n).map fun (i : Nat) => Val.int (lo + (i : Int))
/-- range(j) -/
def iRange1 (a : SE) : SI := fun sv h => (a sv h).bind fun v h1 => match v with
  | .int j => if -4611686018427387904 ≤ j ∧ j < 4611686018427387904 then .ok (rangeV 0 j.toNat) h1 else .bad
  | _ => .bad
/-- range(i, j) -/
def iRange2 (a b : SE) : SI := fun sv h => (a sv h).bind fun v h1 => (b sv h1).bind fun u h2 => match v, u with
  | .int i, .int j => if (-4611686018427387904 ≤ i ∧ i < 4611686018427387904) ∧ -4611686018427387904 ≤ j ∧ j < 4611686018427387904 then .ok (rangeV i (j - i).toNat) h2 else .bad
  | _, _ => .bad
theorem yld_range {K : PySem.W.Frag} {S0 : Sn} (lo : Int) (n : Nat) : Yld K cm S0 (Itr lo n) (rangeV lo n) := fun S e M i => by
  unfold rangeV
  refine ⟨fun ei => by simp at ei; show n ≤ i; omega, fun v hv => ?_⟩
  rw [List.getElem?_map] at hv
  by_cases hi : i < n
  · rw [List.getElem?_eq_getElem (by simpa using hi)] at hv
    simp at hv
    subst hv
    refine ⟨hi, fun x H' hy => ?_⟩
    obtain ⟨rfl, rfl⟩ := hy
    exact ⟨S, rfl, rfl, Ext.refl S, M, rfl⟩
  · rw [List.getElem?_eq_none (by simpa using hi)] at hv
    cases hv
theorem ji_range1 {tg : Expr} {p : Pos} (hg : Gl X "range") (hm : X.mg "range" = none) (ha : JE X cm W a fa) (hs : starEach [a] X.env = [(false, eval a X.env)] := by rfl) : JI X cm W tg (.Call (.Name "range" p) [a] [] pos) (iRange1 fa) :=
  PI.imp (pi_range1 hg hm (pa_cons ha pa_nil (by rw [hs]; rfl)) hs) fun σ H Q ⟨S, sv, e, M, r, p⟩ => by
    subst e
    refine ⟨S, sv, rfl, M, r, Post.bind p fun v S1 e1 M1 p1 w r1 => ?_⟩
    cases v with
    | int j =>
      obtain rfl := r1
      obtain ⟨hl, p1⟩ := Post.ite p1
      exact ⟨j, rfl, by have := hl.1; omega, by have := hl.2; omega, p1.here M1 _ (yld_range _ _)⟩
    | _ => exact p1.elim
theorem ji_range2 {tg : Expr} {p : Pos} (hg : Gl X "range") (hm : X.mg "range" = none) (ha : JE X cm W a fa) (hb : JE X cm W b fb) (hs : starEach [a, b] X.env = [(false, eval a X.env), (false, eval b X.env)] := by rfl) (hs2 : starEach [b] X.env = [(false, eval b X.env)] := by rfl) :
    JI X cm W tg (.Call (.Name "range" p) [a, b] [] pos) (iRange2 fa fb) :=
  PI.imp (pi_range2 hg hm (pa_cons ha (pa_cons hb pa_nil (by rw [hs2]; rfl)) (by rw [hs, hs2])) hs hs2) fun σ H Q ⟨S, sv, e, M, r, p⟩ => by
    subst e
    refine ⟨S, sv, rfl, M, r, Post.bind p fun v S1 e1 M1 p1 w r1 => ?_⟩
    refine ⟨S1, sv, rfl, M1, r.ext e1, Post.bind p1 fun u S2 e2 M2 p2 w2 r2 => ?_⟩
    cases v with
    | int i =>
      cases u with
      | int j =>
        obtain rfl := r1
        obtain rfl := r2
        obtain ⟨hl, p2⟩ := Post.ite p2
        exact ⟨i, j, rfl, ⟨by have := hl.1.1; omega, by have := hl.1.2; omega, by have := hl.2.1; omega, by have := hl.2.2; omega⟩, p2.here M2 _ (yld_range _ _)⟩
      | _ => exact p2.elim
    | _ => exact p2.elim
end
end Sx

set_option Elab.async false
set_option linter.all false
set_option maxRecDepth 100000
set_option maxHeartbeats 2000000
/-! SxFn: comprehensions; a def's promise from its semantics, calls. -/
namespace Sx
open PySem PySem.Spec L2
open PyProof.Rows hiding St
/-! ### comprehensions -/
/-- no exception within -/
def W0 : XW := fun _ _ _ => False
section
variable {X : Cx} {cm : Nat → Addr} {W W' : XW} {pos : Pos} {fa fb fc : SE}
theorem wipeE_length (sv : Env) : ∀ vs : List Nat, (wipeE sv vs).length = sv.length
  | [] => rfl
  | v :: vs => by unfold wipeE; rw [List.length_set, wipeE_length sv vs]
theorem wipeE_some {sv : Env} {i : Nat} {x : Val} : ∀ {vs : List Nat}, (wipeE sv vs)[i]? = some (some x) → sv[i]? = some (some x) ∧ i ∉ vs
  | [], h => ⟨h, by simp⟩
  | v :: vs, h => by
    unfold wipeE at h
    by_cases hi : v = i
    · subst hi
      by_cases hl : v < (wipeE sv vs).length
      · rw [List.getElem?_set_self hl] at h; cases h
      · rw [List.getElem?_eq_none (by rw [List.length_set]; omega)] at h; cases h
    · rw [List.getElem?_set_ne hi] at h
      obtain ⟨h1, h2⟩ := wipeE_some h
      exact ⟨h1, fun z => (List.mem_cons.mp z).elim (fun e => hi e.symm) h2⟩
theorem SRel.wiped {K : PySem.W.Frag} {S : Sn} {sv : Env} {σ : L2.St} (r : SRel K S sv σ) (vs : List Nat) : SRel K S (wipeE sv vs) (wipe σ vs) := by
  refine ⟨by rw [wipeE_length, wipe_length, r.1], fun i v h => ?_⟩
  obtain ⟨h1, h2⟩ := wipeE_some h
  obtain ⟨w, h3, h4⟩ := r.2 i v h1
  exact ⟨w, by rw [wipe_get, if_neg h2]; exact h3, h4⟩
/-- a list in the making, its address held back -/
theorem ext_of_res {K : PySem.W.Frag} {S S' : Sn} (M : MR K cm S) {p : Addr} {o o' : HO} (hp : S.H p = none) (e : Ext (S.res p o) S') : Ext S ⟨S'.m, S'.h, upd S'.H p o', S.z⟩ := by
  refine ⟨rfl, fun i q h => e.pre i q h, fun q u h k => ?_, fun q hq => ?_⟩
  · have nq : q ≠ p := ne_of_none h hp
    have k' : ¬ Al (S.res p o) q := by
      rintro (a | a)
      · rcases List.mem_cons.mp a with z | z
        · exact nq z
        · exact k (.inl z)
      · exact k (.inr a)
    obtain ⟨h1, h2⟩ := e.keep q u (by show upd S.H p o q = _; rw [upd_ne nq]; exact h) k'
    refine ⟨by show upd S'.H p o' q = _; rw [upd_ne nq]; exact h1, ?_⟩
    rintro (a | a)
    · exact k (.inl a)
    · exact h2 (.inr a)
  · have nq : q ≠ p := fun z => M.zn q hq (by rw [z]; exact hp)
    show upd S'.H p o' q = _
    rw [upd_ne nq, e.rz q (List.mem_cons_of_mem _ hq)]
    show upd S.H p o q = _
    rw [upd_ne nq]
theorem ext_res {K : PySem.W.Frag} {S : Sn} (M : MR K cm S) {p : Addr} {o : HO} (hp : S.H p = none) : ∀ q u, S.H q = some u → ¬ Al S q → (S.res p o).H q = some u ∧ ¬ Al (S.res p o) q := fun q u h k => by
  have nq : q ≠ p := ne_of_none h hp
  refine ⟨by show upd S.H p o q = _; rw [upd_ne nq]; exact h, ?_⟩
  rintro (a | a)
  · rcases List.mem_cons.mp a with z | z
    · exact nq z
    · exact k (.inl z)
  · exact k (.inr a)
theorem lift_res {K : PySem.W.Frag} {S : Sn} (M : MR K cm S) {p : Addr} {o : HO} (hp : S.H p = none) : Lift S (S.res p o) := ⟨fun _ _ h => h, ext_res M hp⟩
theorem mr_res {K : PySem.W.Frag} {S : Sn} (M : MR K cm S) {p : Addr} {o : HO} (hp : S.H p = none) : MR K cm (S.res p o) := by
  refine ⟨M.len, M.inj, fun i c q h1 h2 => (M.obj i c q h1 h2).lift (lift_res M hp) fun u hu => ?_, fun q hq => ?_, fun i q c h1 h2 h3 hq => ?_⟩
  · show upd S.H p o q = _; rw [upd_ne (ne_of_none hu hp)]; exact hu
  · rcases List.mem_cons.mp hq with z | z
    · subst z; show upd S.H q o q ≠ none; rw [upd_same]; exact fun z => nomatch z
    · exact upd_nn (M.zn q z)
  · rcases List.mem_cons.mp hq with z | z
    · subst z; exact not_al M hp (.inr ⟨i, c, h1, h2, h3⟩)
    · exact M.zc i q c h1 h2 h3 z
/-- the held-back object written -/
def Sn.wr (S : Sn) (p : Addr) (o : HO) : Sn := ⟨S.m, S.h, upd S.H p o, S.z⟩
theorem lift_wr {S : Sn} {p : Addr} {o : HO} (hp : p ∈ S.z) : Lift S (S.wr p o) := ⟨fun _ _ h => h, fun q u h k => ⟨by
  show upd S.H p o q = _
  rw [upd_ne (fun z => k (.inl (by rw [z]; exact hp)))]; exact h, k⟩⟩
theorem mr_wr {K : PySem.W.Frag} {S : Sn} (M : MR K cm S) {p : Addr} {o : HO} (hp : p ∈ S.z) : MR K cm (S.wr p o) := by
  refine ⟨M.len, M.inj, fun i c q h1 h2 => ?_, fun q hq => ?_, M.zc⟩
  · by_cases hd : c = .dead
    · subst hd; trivial
    · refine (M.obj i c q h1 h2).lift (lift_wr hp) fun u hu => ?_
      show upd S.H p o q = _
      rw [upd_ne (fun z => M.zc i q c h2 h1 hd (by rw [z]; exact hp))]; exact hu
  · show upd S.H p o q ≠ none
    unfold upd
    split
    · exact fun z => nomatch z
    · exact M.zn q hq
/-- the object held back may be another one -/
theorem Post.rewr {K : PySem.W.Frag} {S : Sn} {α : Type} {r : R α} {P P' : α → Sn → Prop} {p : Addr} {o u : HO} (hp : p ∈ S.z) (ho : S.H p = some u) (h : Post K cm W0 S r P) (k : ∀ a S', S'.z = S.z → Ext (S.wr p o) S' → MR K cm S' → P a (S'.wr p u) → P' a S') : Post K cm W0 (S.wr p o) r P' := by
  have e0 : ∀ S', Ext (S.wr p o) S' → Ext S (S'.wr p u) := fun S' e => by
    refine ⟨e.zz, e.pre, fun q v h1 h2 => ?_, fun q hq => ?_⟩
    · have nq : q ≠ p := fun z => h2 (.inl (by rw [z]; exact hp))
      obtain ⟨h3, h4⟩ := e.keep q v (by show upd S.H p o q = _; rw [upd_ne nq]; exact h1) h2
      exact ⟨by show upd S'.H p u q = _; rw [upd_ne nq]; exact h3, h4⟩
    · by_cases nq : q = p
      · subst nq; show upd S'.H q u q = _; rw [upd_same, ho]
      · show upd S'.H p u q = _
        rw [upd_ne nq, e.rz q hq]
        show upd S.H p o q = _
        rw [upd_ne nq]
  cases r with
  | ok a h' => exact fun S' e1 e2 M' => k a S' e2.zz e2 M' (h (S'.wr p u) e1 (e0 S' e2) (mr_wr M' (by rw [e2.zz]; exact hp)))
  | exc c vs h' => exact fun S' e1 e2 M' => h (S'.wr p u) e1 (e0 S' e2) (mr_wr M' (by rw [e2.zz]; exact hp))
  | bad => exact h
/-- given back -/
def Sn.back (S : Sn) (z : List Addr) : Sn := ⟨S.m, S.h, S.H, z⟩
theorem lift_back {S : Sn} {z : List Addr} (h : ∀ p ∈ z, p ∈ S.z) : Lift S (S.back z) := ⟨fun _ _ h => h, fun q u hq k => ⟨hq, fun a => k (a.elim (fun y => .inl (h q y)) .inr)⟩⟩
theorem mr_back {K : PySem.W.Frag} {S : Sn} (M : MR K cm S) {z : List Addr} (h : ∀ p ∈ z, p ∈ S.z) : MR K cm (S.back z) :=
  ⟨M.len, M.inj, fun i c q h1 h2 => (M.obj i c q h1 h2).lift (lift_back h) fun _ hu => hu, fun q hq => M.zn q (h q hq), fun i q c h1 h2 h3 hq => M.zc i q c h1 h2 h3 (h q hq)⟩
abbrev JTs (X : Cx) (cm : Nat → Addr) (W : XW) (e : List Expr) (f : ST) : Prop := PTs X e (tT X.K cm W f)
theorem jts_nil : JTs X cm W [] tTrue := ⟨fun pins s σ H Q I ⟨S, sv, e, M, r, p⟩ => pts_nil.run pins s σ H Q I (by subst e; exact p.here M)⟩
theorem jts_one {c : Expr} {t : ST} (h : JT X cm W c t) : JTs X cm W [c] t := pts_one h
theorem Post.mono {K : PySem.W.Frag} {S : Sn} {α : Type} {r : R α} {P : α → Sn → Prop} (h : Post K cm W0 S r P) : Post K cm W S r P := by
  cases r with
  | ok a h' => exact h
  | exc c vs h' => exact fun S' a b c' => (h S' a b c').elim
  | bad => exact h
theorem noX_bind {α β : Type} {r : R α} {f : α → Hv → R β} : noX (r.bind f) = (noX r).bind fun a h => noX (f a h) := by cases r <;> rfl
theorem Post.noX {K : PySem.W.Frag} {S : Sn} {α : Type} {r : R α} {P : α → Sn → Prop} (h : Post K cm W S (noX r) P) : Post K cm W' S r P := by
  cases r with
  | ok a h' => exact h
  | exc c vs h' => exact h.elim
  | bad => exact h
theorem lc_post {own : List Nat} {gg : SG} {t : ST} {fe : SE} {σ : L2.St} {sv : Env} {D : Addr} {S0 : Sn} {J : It} {xs : List Val} {Qd : VK} (M0 : MR X.K cm S0) (r0 : SRel X.K S0 sv σ) (hD : S0.H D = none)
    (hJ : Yld X.K cm S0 J xs) (p : Post X.K cm W S0 (noX ((sLcL gg t fe (wipeE sv own) 0 xs S0.h).bind fun ys h2 => .ok (Val.fl ys) h2)) fun v S' => ∀ w, VRel X.K S' v w → Qd w S'.H) :
    ∃ Wi : Nat → Nat → Hp → Prop, (∃ m, Wi 0 m (upd S0.H D (.lst []))) ∧ ∀ i m H, Wi i m H → (J.stop i H ∧ Qd (.ref D) H) ∨ (J.go i H ∧ ∃ Nx : Hp → Prop, (∀ H', Nx H' → ∃ m', m' < m ∧ Wi (i + 1) m' H') ∧ ∀ x H', J.yld i H x H' →
      tGw X.K cm W0 own gg x (wipe σ own) H' fun σ2 H2 => wipe σ2 own = wipe σ own ∧ tT X.K cm W0 t σ2 H2 fun b H3 => if b = true then tE X.K cm W0 fe σ2 H3 fun y H4 => ∃ acc, H4 D = some (.lst acc) ∧ acc.length < sizeLine ∧ Nx (upd H4 D (.lst (acc ++ [y]))) else Nx H3) := by
  have wipe2 : wipe (wipe σ own) own = wipe σ own := by
    apply List.ext_getElem?
    intro j
    rw [wipe_get, wipe_get]
    split
    · cases σ[j]? <;> rfl
    · rfl
  have hDz : D ∉ S0.z := fun z => M0.zn D z hD
  -- what is left to do from turn i on, the items made so far acc
  let Pv : Nat → Hp → Prop := fun i H => ∃ (S : Sn) (acc : List Val) (ws : List V), S.H = H ∧ S.z = D :: S0.z ∧ Lift S0 S ∧ MR X.K cm S ∧ S.H D = some (.lst ws) ∧ (∀ q ∈ S0.z, S.H q = S0.H q) ∧ VRels X.K S acc ws ∧
    Post X.K cm W0 S (sLcL gg t fe (wipeE sv own) acc.length (xs.drop i) S.h) fun ys S' => ∀ ws', VRels X.K S' (acc ++ ys) ws' → Qd (.ref D) (upd S'.H D (.lst ws'))
  refine ⟨fun i m H => m = xs.length - i ∧ i ≤ xs.length ∧ Pv i H, ⟨xs.length, by simp, Nat.zero_le _, S0.res D (.lst []), [], [], rfl, rfl, lift_res M0 hD, mr_res M0 hD, upd_same, fun q hq => upd_ne fun z => hDz (by rw [← z]; exact hq), VRels.nil, ?_⟩, ?_⟩
  · show Post X.K cm W0 (S0.res D (.lst [])) (sLcL gg t fe (wipeE sv own) 0 xs S0.h) _
    generalize sLcL gg t fe (wipeE sv own) 0 xs S0.h = r at p
    cases r with
    | exc c vs h' => exact p.elim
    | bad => exact p.elim
    | ok ys h' =>
      intro S' e1 e2 M'
      simp only [bind_ok] at p
      intro ws' hw
      have hz : D ∈ S'.z := by rw [e2.zz]; exact List.mem_cons_self
      have M2 := mr_back (mr_wr M' (o := .lst ws') hz) (z := S0.z) fun q hq => by show q ∈ S'.z; rw [e2.zz]; exact List.mem_cons_of_mem _ hq
      have L2' : Lift S' ((S'.wr D (.lst ws')).back S0.z) := (lift_wr hz).trans (lift_back fun q hq => by show q ∈ S'.z; rw [e2.zz]; exact List.mem_cons_of_mem _ hq)
      refine p ((S'.wr D (.lst ws')).back S0.z) e1 (ext_of_res M0 hD e2) M2 (.ref D) ⟨D, ws', rfl, ⟨upd_same, ?_⟩, VRels.lift L2' ys hw⟩
      rintro (a | ⟨i, c, h1, h2, h3⟩)
      · exact hDz a
      · exact M'.zc i D c h1 h2 h3 hz
  rintro i m _ ⟨rfl, hi, S, acc, ws, rfl, hz, L, M, hDw, hq0, ra, p⟩
  obtain ⟨y1, y2⟩ := hJ S L M i
  have hzD : D ∈ S.z := by rw [hz]; exact List.mem_cons_self
  by_cases hlt : i < xs.length
  · obtain ⟨go, y3⟩ := y2 xs[i] (List.getElem?_eq_getElem hlt)
    refine .inr ⟨go, Pv (i + 1), fun H' h => ⟨xs.length - (i + 1), by omega, rfl, hlt, h⟩, fun x H' hy => ?_⟩
    obtain ⟨S2, rfl, eh, e2, M2, r2⟩ := y3 x H' hy
    rw [List.drop_eq_getElem_cons hlt, ← eh] at p
    have rw0 : SRel X.K S2 (wipeE sv own) (wipe σ own) := ((r0.lift L).ext e2).wiped own
    refine ⟨S2, wipeE sv own, xs[i], rfl, M2, rw0, r2, Post.bind (Post.step e2 p) fun s1 S3 e3 M3 p3 σ3 r3 w3 => ⟨w3.trans wipe2, ?_⟩⟩
    refine ⟨S3, s1, rfl, M3, r3, Post.bind p3 fun b S4 e4 M4 p4 => ?_⟩
    have e24 : Ext S S4 := e2.trans (e3.trans e4)
    have hD4 : S4.H D = some (.lst ws) := (e24.rz D hzD).trans hDw
    cases b with
    | false =>
      show Pv (i + 1) S4.H
      rw [if_neg Bool.false_ne_true] at p4
      exact ⟨S4, acc, ws, rfl, e24.zz.trans hz, L.trans e24.lift, M4, hD4, fun q hq => (e24.rz q (by rw [hz]; exact List.mem_cons_of_mem _ hq)).trans (hq0 q hq), VRels.ext e24 acc ra, p4⟩
    | true =>
      show (if true = true then _ else _)
      rw [if_pos rfl] at p4 ⊢
      refine ⟨S4, s1, rfl, M4, r3.ext e4, Post.bind p4 fun y S5 e5 M5 p5 w5 r5 => ?_⟩
      obtain ⟨hlen, p5⟩ := Post.ite p5
      have e25 : Ext S S5 := e24.trans e5
      have hD5 : S5.H D = some (.lst ws) := (e25.rz D hzD).trans hDw
      have hz5 : D ∈ S5.z := by rw [e25.zz]; exact hzD
      have p6 : Post X.K cm W0 S5 (sLcL gg t fe (wipeE sv own) (acc.length + 1) (xs.drop (i + 1)) S5.h) fun ys S' => ∀ ws', VRels X.K S' (acc ++ y :: ys) ws' → Qd (.ref D) (upd S'.H D (.lst ws')) := Post.bind p5 fun ys S6 e6 M6 q6 => q6.here M6
      have p7 := Post.rewr (cm := cm) (o := HO.lst (ws ++ [w5])) hz5 hD5 p6 (P' := fun ys S' => ∀ ws', VRels X.K S' ((acc ++ [y]) ++ ys) ws' → Qd (.ref D) (upd S'.H D (.lst ws'))) fun ys S' ez' e' M' q => by
        have ea : (acc ++ [y]) ++ ys = acc ++ y :: ys := by simp
        rw [ea]
        intro ws' hw
        have hz' : D ∈ S'.z := by rw [ez']; exact hz5
        have q2 := q ws' (VRels.lift (lift_wr hz') _ hw)
        have eu : upd (S'.wr D (.lst ws)).H D (.lst ws') = upd S'.H D (.lst ws') := upd_upd
        rw [eu] at q2
        exact q2
      have hll : (acc ++ [y]).length = acc.length + 1 := by simp
      rw [← hll] at p7
      refine ⟨ws, hD5, by rw [← ra.length, sizeLine_eq]; exact hlen, S5.wr D (.lst (ws ++ [w5])), acc ++ [y], ws ++ [w5], rfl, e25.zz.trans hz, (L.trans e25.lift).trans (lift_wr hz5), mr_wr M5 hz5, upd_same, fun q hq => ?_, VRels.lift (lift_wr hz5) _ (VRels.append (VRels.ext e25 acc ra) (VRels.cons r5 VRels.nil)), p7⟩
      show upd S5.H D _ q = _
      rw [upd_ne (fun z => hDz (by rw [← z]; exact hq))]
      exact (e25.rz q (by rw [hz]; exact List.mem_cons_of_mem _ hq)).trans (hq0 q hq)
  · have ei : i = xs.length := by omega
    refine .inl ⟨y1 ei, ?_⟩
    rw [List.drop_eq_nil_of_le (by omega)] at p
    have q' := p.here M ws (by simpa using ra)
    have e : upd S.H D (.lst ws) = S.H := by
      funext b
      by_cases hb : b = D
      · subst hb; rw [upd_same, hDw]
      · rw [upd_ne hb]
    rw [e] at q'
    exact q'
theorem je_lc {elt tg iter : Expr} {ifs : List Expr} {scope : Scope} {own : List (Str × Nat)} {it : SI} {gg : SG} {t : ST} {fe : SE} (hc : X.calm = true) (hN : X.N.Nodup) (hi : JI X cm W tg iter it) (ok : BlkOk X.N X.env.scope scope own)
    (hg : ∀ (s : Shared) (H : Hp) (C : Addr) (cl : List (Str × Addr)) (fp : List Addr), JG (X.blk s H scope (compEnvC scope cl C X.env) fp) cm W0 (own.map (·.2)) tg gg) (ht : ∀ (s : Shared) (H : Hp) (C : Addr) (cl : List (Str × Addr)) (fp : List Addr), JTs (X.blk s H scope (compEnvC scope cl C X.env) fp) cm W0 ifs t)
    (he : ∀ (s : Shared) (H : Hp) (C : Addr) (cl : List (Str × Addr)) (fp : List Addr), JE (X.blk s H scope (compEnvC scope cl C X.env) fp) cm W0 elt fe) (hs : ∀ x, foldedSetIterable iter X.env x = pure x := by intro _; rfl) :
    JE X cm W (.ListComp elt [⟨tg, iter, ifs, 0⟩] scope pos) (sLc (own.map (·.2)) it gg t fe) := PE.imp (pe_lc hc hN hi ok hg ht he hs) fun σ H Q ⟨S, sv, e, M, r, p⟩ => by
  subst e
  refine ⟨S, sv, rfl, M, r, Post.bind p fun xs S0 e0 M0 p0 J hJ D hD => ?_⟩
  exact lc_post M0 (r.ext e0) hD hJ p0
theorem js_setLc {i : Nat} {y : Str} {py : Pos} {elt tg iter : Expr} {ifs : List Expr} {scope : Scope} {own : List (Str × Nat)} {spos : Pos} {it : SI} {gg : SG} {t : ST} {fe : SE} (hc : X.calm = true) (hN : X.N.Nodup) (hy : X.N[i]? = some y) (hyl : X.env.scope.names.lookup y = some .local)
    (hsw : swapsWith (.ListComp elt [⟨tg, iter, ifs, 0⟩] scope pos) (some (.Name y py)) spos.line X.env = pure true) (hi : JI X cm W tg iter it) (ok : BlkOk X.N X.env.scope scope own)
    (hg : ∀ (s : Shared) (H : Hp) (C : Addr) (cl : List (Str × Addr)) (fp : List Addr), JG (X.blk s H scope (compEnvC scope cl C X.env) fp) cm W0 (own.map (·.2)) tg gg) (ht : ∀ (s : Shared) (H : Hp) (C : Addr) (cl : List (Str × Addr)) (fp : List Addr), JTs (X.blk s H scope (compEnvC scope cl C X.env) fp) cm W0 ifs t)
    (he : ∀ (s : Shared) (H : Hp) (C : Addr) (cl : List (Str × Addr)) (fp : List Addr), JE (X.blk s H scope (compEnvC scope cl C X.env) fp) cm W0 elt fe) (hs : ∀ x, foldedSetIterable iter X.env x = pure x := by intro _; rfl) :
    JS X cm W (.Assign [.Name y py] (.ListComp elt [⟨tg, iter, ifs, 0⟩] scope pos) spos) (sSet i (sLc (own.map (·.2)) it gg t fe)) := PS.imp (ps_setLc hc hN hy hyl hsw hi ok hg ht he hs) fun Dn σ H ⟨S, sv, e, M, r, p⟩ => by
  subst e
  have p : Post X.K cm W S ((sLc (own.map (·.2)) it gg t fe sv S.h).bind fun v h1 => .ok (.nx (sv.set i (some v))) h1) (FlP X.K Dn) := p
  have p' : Post X.K cm W S (sLc (own.map (·.2)) it gg t fe sv S.h) fun v S' => ∀ w, VRel X.K S' v w → gName i w σ S'.H Dn.nx := Post.bind p fun v S1 e1 M1 p1 w r1 => p1.here M1 _ ((r.ext e1).set r1 i)
  refine ⟨S, sv, rfl, M, r, Post.bind p' fun xs S0 e0 M0 p0 J hJ D hD => ?_⟩
  exact lc_post M0 (r.ext e0) hD hJ p0
end
/-! ### defs and calls -/
section
/-- what a def promises that raises nothing: F of the arguments -/
def spF (K : PySem.W.Frag) (cm : Nat → Addr) (n : Nat) (F : SF) : Sp := fun vs H Q _ => vs.length = n ∧ ∃ S us, S.H = H ∧ MR K cm S ∧ VRels K S us vs ∧ Post K cm W0 S (F us S.h) fun v S' => ∀ w, VRel K S' v w → Q w S'.H
variable {P : Program} {w : World} {K : PySem.W.Frag} {mg : Str → Option Value} {base : Heap} {cm : Nat → Addr}
/-- a def's F -/
abbrev FnS (P : Program) (w : World) (K : PySem.W.Frag) (mg : Str → Option Value) (base : Heap) (cm : Nat → Addr) (k : Nat) (f : Addr) (fd : FuncData) (ps : List Str) (F : SF) : Prop := FnOk P w K mg base CX0 k f fd ps (spF K cm ps.length F)
theorem srel_start {S : Sn} {us : List Val} {vs : List V} (N : List Str) (r : VRels K S us vs) : SRel K S (us.map some ++ List.replicate (N.length - us.length) none) (L2.start N vs) := by
  unfold L2.start
  refine ⟨by simp [r.length], fun i v h => ?_⟩
  by_cases hi : i < us.length
  · rw [List.getElem?_append_left (by simpa using hi), List.getElem?_map] at h
    cases e : us[i]? with
    | none => rw [e] at h; cases h
    | some a =>
      rw [e] at h
      cases h
      obtain ⟨w, h1, h2⟩ := r.get e
      exact ⟨w, by rw [List.getElem?_append_left (by rw [List.length_map, ← r.length]; exact hi), List.getElem?_map, h1]; rfl, h2⟩
  · rw [List.getElem?_append_right (by simpa using hi), List.getElem?_replicate] at h
    split at h <;> cases h
theorem fn_body {x qual : Str} {st : Stmt} {f : Addr} {fd : FuncData} {N ps : List Str} {k : Nat} {b : SS} (F : Fun K x qual st f fd) (S0 : FnScope N ps (defScope st))
    (hb : ∀ (cdv : Value) (A : Around) (outer : List PySem.Env) (s : Shared) (H : Hp) (E : XK), Room k (A.deeper (envOfC qual (defScope st) s.heap.objs.size f cdv)) → JB (cxOf CX0 P w K mg base N qual (defScope st) f cdv A outer s H E).nox cm W0 (defBody st) b) :
    FnS P w K mg base cm (k + 1) f fd ps (sFn ps.length N.length b) := by
  refine F.ok (sp := spF K cm ps.length (sFn ps.length N.length b)) S0 (fun vs H Q E h => h.1) fun cdv A outer s H vs Q E hr ⟨hl, S, us, e, M, r, p⟩ => ⟨_, hb cdv A outer s H E hr, ?_⟩
  subst e
  have hul : us.length = ps.length := r.length.trans hl
  refine ⟨S, us.map some ++ List.replicate (N.length - ps.length) none, rfl, M, by rw [← hul]; exact srel_start N r, ?_⟩
  unfold sFn at p
  rw [if_pos hul] at p
  generalize b (us.map some ++ List.replicate (N.length - ps.length) none) S.h = z at p
  cases z with
  | ok fl h' =>
    cases fl with
    | nx s => exact fun S' e1 e2 M' σ' _ => p S' e1 e2 M' .non rfl
    | rt v => exact fun S' e1 e2 M' w rw' => p S' e1 e2 M' w rw'
    | bk s => exact p.elim
    | ct s => exact p.elim
  | exc c v h' => exact p
  | bad => exact p.elim
/-- a call -/
theorem je_call {X : Cx} {W : XW} {k : Nat} {f : Addr} {fd : FuncData} {ps : List Str} {G : SF} {x : Str} {p pos : Pos} {e : Expr} {es : List Expr} {fs : SA} (F : FnS X.prog X.w X.K X.mg X.base cm k f fd ps G) (hr : Room k X.A) (hg : Gl X x) (hm : X.mg x = some (.ref f)) (hk : PySem.W.keepIn X.K (.ref f) = true) (hb : Binds X.K fd ps [])
    (ha : JA X cm W (e :: es) fs) (hdb : (x == ("__debug__" : Str)) = false := by decide) (he : starEach (e :: es) X.env = (false, eval e X.env) :: starEach es X.env := by rfl) (hpl : (backTo pos (starEach es X.env)).any (·.1) = false := by rfl) :
    JE X cm W (.Call (.Name x p) (e :: es) [] pos) (sCall (fun us h => if us.length = ps.length then noX (G us h) else .bad) fs) := PE.imp (pe_call F hr hg hm hk hb .nil pass0 ha hdb he hpl) fun σ H Q ⟨S, sv, e, M, r, p⟩ => by
  subst e
  refine ⟨S, sv, rfl, M, r, Post.bind p fun vs S1 e1 M1 p1 ws r1 => ?_⟩
  obtain ⟨hl, p1⟩ := Post.ite p1
  rw [List.append_nil]
  exact ⟨by rw [← r1.length]; exact hl, S1, vs, rfl, M1, r1, p1.noX⟩
/-- a def may be read by a semantics that cuts off what it made for itself -/
def Val.lt (n : Nat) : Val → Bool
  | .ref i => decide (i < n)
  | .tup vs => ltl n vs
  | .fl vs => ltl n vs
  | .kl vs => ltl n vs
  | _ => true
where ltl (n : Nat) : List Val → Bool
  | [] => true
  | v :: vs => Val.lt n v && ltl n vs
def Cell.lt (n : Nat) : Cell → Bool
  | .dead => true
  | .lst vs => Val.lt.ltl n vs
/-- the first n cells are as they were, or speak of the first n cells alone -/
def TrOk (h h1 : Hv) : Prop := ∀ (i : Nat) (c : Cell), i < h.length → h1[i]? = some c → h[i]? = some c ∨ c.lt h.length = true
open Classical in
noncomputable def trunc (F : SF) : SF := fun us h => (F us h).bind fun v h1 => if v.lt h.length = true ∧ TrOk h h1 then .ok v (h1.take h.length) else .bad
def Sn.cut (S : Sn) (n : Nat) : Sn := ⟨S.m.take n, S.h.take n, S.H, S.z⟩
theorem al_cut {S : Sn} {n : Nat} {p : Addr} (a : Al (S.cut n) p) : Al S p := by
  rcases a with a | ⟨i, c, h1, h2, h3⟩
  · exact .inl a
  · have t : ∀ {α : Type} {l : List α} {x : α}, (l.take n)[i]? = some x → l[i]? = some x := fun {α l x} h => by
      rw [List.getElem?_take] at h
      split at h
      · exact h
      · cases h
    exact .inr ⟨i, c, t h1, t h2, h3⟩
mutual
theorem VRel.cut {S : Sn} {n : Nat} : ∀ (v : Val) {w : V}, v.lt n = true → VRel K S v w → VRel K (S.cut n) v w
  | .non, _, _, h => h
  | .bl _, _, _, h => h
  | .int _, _, _, h => h
  | .str _, _, _, h => h
  | .ref i, _, hl, ⟨p, h1, h2⟩ => ⟨p, h1, by show (S.m.take n)[i]? = some p; rw [List.getElem?_take_of_lt (by simpa [Val.lt] using hl)]; exact h2⟩
  | .tup vs, _, hl, ⟨p, ws, h1, h2, h3⟩ => ⟨p, ws, h1, (match h2 with | .inl h => .inl ⟨h.1, fun a => h.2 (al_cut a)⟩ | .inr h => .inr h), VRels.cut vs hl h3⟩
  | .fl vs, _, hl, ⟨p, ws, h1, h2, h3⟩ => ⟨p, ws, h1, ⟨h2.1, fun a => h2.2 (al_cut a)⟩, VRels.cut vs hl h3⟩
  | .kl vs, _, hl, ⟨p, ws, h1, h2, h3⟩ => ⟨p, ws, h1, (match h2 with | .inl h => .inl ⟨h.1, fun a => h.2 (al_cut a)⟩ | .inr h => .inr h), VRels.cut vs hl h3⟩
theorem VRels.cut {S : Sn} {n : Nat} : ∀ (vs : List Val) {ws : List V}, Val.lt.ltl n vs = true → VRels K S vs ws → VRels K (S.cut n) vs ws
  | [], _, _, h => h
  | v :: vs, _, hl, ⟨w, r, h1, h2, h3⟩ => by
    simp only [Val.lt.ltl, Bool.and_eq_true] at hl
    exact ⟨w, r, h1, VRel.cut v hl.1 h2, VRels.cut vs hl.2 h3⟩
end
mutual
theorem VRel.ltOf {S : Sn} : ∀ (v : Val) {w : V}, VRel K S v w → v.lt S.m.length = true
  | .non, _, _ => rfl
  | .bl _, _, _ => rfl
  | .int _, _, _ => rfl
  | .str _, _, _ => rfl
  | .ref i, _, ⟨p, h1, h2⟩ => by simpa [Val.lt] using (List.getElem?_eq_some_iff.mp h2).1
  | .tup vs, _, ⟨p, ws, h1, h2, h3⟩ => VRels.ltOf vs h3
  | .fl vs, _, ⟨p, ws, h1, h2, h3⟩ => VRels.ltOf vs h3
  | .kl vs, _, ⟨p, ws, h1, h2, h3⟩ => VRels.ltOf vs h3
theorem VRels.ltOf {S : Sn} : ∀ (vs : List Val) {ws : List V}, VRels K S vs ws → Val.lt.ltl S.m.length vs = true
  | [], _, _ => rfl
  | v :: vs, _, ⟨w, r, h1, h2, h3⟩ => by simp only [Val.lt.ltl, Bool.and_eq_true]; exact ⟨VRel.ltOf v h2, VRels.ltOf vs h3⟩
end
theorem MR.cellLt {S : Sn} (M : MR K cm S) {i : Nat} {c : Cell} (h : S.h[i]? = some c) : c.lt S.h.length = true := by
  have hl : i < S.m.length := by rw [M.len]; exact (List.getElem?_eq_some_iff.mp h).1
  have q := M.obj i c _ h (List.getElem?_eq_getElem hl)
  cases c with
  | dead => rfl
  | lst vs => obtain ⟨ws, _, h2⟩ := q; rw [← M.len]; exact VRels.ltOf vs h2
theorem mr_cut {S : Sn} {n : Nat} (M : MR K cm S) (ha : (S.h.take n).all (Cell.lt n) = true) : MR K cm (S.cut n) := by
  have t : ∀ {α : Type} {l : List α} {x : α} {i : Nat}, (l.take n)[i]? = some x → l[i]? = some x := fun {α l x i} h => by
    rw [List.getElem?_take] at h
    split at h
    · exact h
    · cases h
  refine ⟨by show (S.m.take n).length = (S.h.take n).length; simp [M.len], fun i j p ci cj h1 h2 h3 h4 h5 h6 => M.inj i j p ci cj (t h1) (t h2) (t h3) h4 (t h5) h6, fun i c p h1 h2 => ?_, M.zn, fun i p c h1 h2 h3 => M.zc i p c (t h1) (t h2) h3⟩
  have q := M.obj i c p (t h1) (t h2)
  have hc : c.lt n = true := List.all_eq_true.mp ha c (List.mem_of_getElem? h1)
  cases c with
  | dead => trivial
  | lst vs =>
    obtain ⟨ws, e1, e2⟩ := q
    exact ⟨ws, e1, VRels.cut vs hc e2⟩
theorem fn_trunc {k : Nat} {f : Addr} {fd : FuncData} {ps : List Str} {F : SF} (h : FnS P w K mg base cm k f fd ps F) : FnS P w K mg base cm k f fd ps (trunc F) := FnOk.imp h fun vs H Q E ⟨hl, S, us, e, M, r, p⟩ => by
  refine ⟨hl, S, us, e, M, r, ?_⟩
  unfold trunc at p
  generalize F us S.h = z at p
  cases z with
  | exc c us h' => exact p
  | bad => exact p
  | ok v h' =>
    intro S' e1 e2 M' w rw'
    subst e1
    rw [bind_ok] at p
    by_cases hc : v.lt S.h.length = true ∧ TrOk S.h S'.h
    rotate_left
    · rw [if_neg hc] at p; exact p.elim
    rw [if_pos hc] at p
    obtain ⟨c1, c2'⟩ := hc
    have c2 : (S'.h.take S.h.length).all (Cell.lt S.h.length) = true := by
      refine List.all_eq_true.mpr fun c hm => ?_
      obtain ⟨i, hi⟩ := List.getElem?_of_mem hm
      rw [List.getElem?_take] at hi
      split at hi
      · rcases c2' i c (by assumption) hi with z | z
        · exact M.cellLt z
        · exact z
      · cases hi
    have em : S'.m.take S.h.length = S.m := by
      apply List.ext_getElem?
      intro i
      rw [List.getElem?_take]
      by_cases hi : i < S.h.length
      · rw [if_pos hi]
        have : i < S.m.length := by rw [M.len]; exact hi
        rw [List.getElem?_eq_getElem this]
        exact e2.pre i _ (List.getElem?_eq_getElem this)
      · rw [if_neg hi, List.getElem?_eq_none (by rw [M.len]; omega)]
    refine p (S'.cut S.h.length) rfl ⟨e2.zz, fun i q hq => ?_, fun q o h1 h2 => ?_, e2.rz⟩ (mr_cut M' c2) w (VRel.cut v c1 rw')
    · show (S'.m.take S.h.length)[i]? = some q
      rw [em]; exact hq
    · obtain ⟨h3, h4⟩ := e2.keep q o h1 h2
      exact ⟨h3, fun a => h4 (al_cut a)⟩
/-- .. or by any that says the same -/
theorem fn_eq {k : Nat} {f : Addr} {fd : FuncData} {ps : List Str} {F G : SF} (h : FnS P w K mg base cm k f fd ps F) (e : F = G) : FnS P w K mg base cm k f fd ps G := e ▸ h
/-- .. or by one that says less -/
theorem fn_le {k : Nat} {f : Addr} {fd : FuncData} {ps : List Str} {F G : SF} (h : FnS P w K mg base cm k f fd ps F) (e : ∀ us h, G us h = .bad ∨ F us h = G us h) : FnS P w K mg base cm k f fd ps G := FnOk.imp h fun vs H Q E ⟨hl, S, us, e', M, r, p⟩ => by
  refine ⟨hl, S, us, e', M, r, ?_⟩
  rcases e us S.h with z | z
  · rw [z] at p; exact p.elim
  · rw [z]; exact p
end
end Sx

set_option Elab.async false
set_option linter.all false
set_option maxRecDepth 100000
set_option maxHeartbeats 2000000
/-! SxOps: operators, comparisons, places, built-ins. -/
namespace Sx
open PySem PySem.Spec L2
open PyProof.Rows hiding St
/-! ### equality of data -/
def Str.ofL (x : List Nat) : Str := ⟨x.toArray⟩
theorem ofL_of {y : Str} {x : List Nat} (h : y.cps.toList = x) : y = Str.ofL x := by
  obtain ⟨a⟩ := y
  subst h
  rfl
theorem ofL_toList (x : List Nat) : (Str.ofL x).cps.toList = x := rfl
theorem ofL_inj {x y : List Nat} (h : Str.ofL x = Str.ofL y) : x = y := by
  have := congrArg (fun s : Str => s.cps.toList) h
  exact this
mutual
def Val.pd : Val → PyData
  | .bl b => .bool b
  | .int i => .int i
  | .str x => .str (Str.ofL x)
  | .tup vs => .tuple (Val.pds vs)
  | .fl vs => .list (Val.pds vs)
  | .kl vs => .list (Val.pds vs)
  | .non => .none
  | .ref _ => .none
def Val.pds : List Val → List PyData
  | [] => []
  | v :: vs => Val.pd v :: Val.pds vs
end
mutual
def Val.noRef : Val → Bool
  | .ref _ => false
  | .tup vs => Val.noRefs vs
  | .fl vs => Val.noRefs vs
  | .kl vs => Val.noRefs vs
  | _ => true
def Val.noRefs : List Val → Bool
  | [] => true
  | v :: vs => Val.noRef v && Val.noRefs vs
end
mutual
/-- == of values -/
def Val.eq : Val → Val → Bool
  | .non, .non => true
  | .bl a, .bl b => a == b
  | .bl a, .int b => (if a then 1 else 0) == b
  | .int a, .bl b => a == (if b then 1 else 0)
  | .int a, .int b => a == b
  | .str a, .str b => a == b
  | .tup a, .tup b => Val.eqs a b
  | .fl a, .fl b => Val.eqs a b
  | .fl a, .kl b => Val.eqs a b
  | .kl a, .fl b => Val.eqs a b
  | .kl a, .kl b => Val.eqs a b
  | _, _ => false
def Val.eqs : List Val → List Val → Bool
  | [], [] => true
  | a :: as, b :: bs => Val.eq a b && Val.eqs as bs
  | _, _ => false
end
theorem str_beq (a b : List Nat) : (Str.ofL a == Str.ofL b) = (a == b) := by
  by_cases e : a = b
  · subst e; simp
  · rw [beq_eq_false_iff_ne.mpr e, beq_eq_false_iff_ne.mpr (fun z => e (ofL_inj z))]
mutual
theorem eqv_pd : ∀ (a b : Val), a.noRef = true → b.noRef = true → PyData.eqv a.pd b.pd = Val.eq a b
  | .non, b, _, hb => by cases b <;> simp_all [Val.pd, PyData.eqv, Val.eq, Val.noRef]
  | .bl a, b, _, hb => by cases b <;> simp_all [Val.pd, PyData.eqv, Val.eq, Val.noRef]
  | .int a, b, _, hb => by cases b <;> simp_all [Val.pd, PyData.eqv, Val.eq, Val.noRef]
  | .str a, b, _, hb => by cases b <;> simp_all [Val.pd, PyData.eqv, Val.eq, Val.noRef, str_beq]
  | .ref i, b, ha, _ => by simp [Val.noRef] at ha
  | .tup vs, b, ha, hb => by
    cases b with
    | tup us => simp only [Val.pd, PyData.eqv, Val.eq]; exact eqvs_pd vs us (by simpa [Val.noRef] using ha) (by simpa [Val.noRef] using hb)
    | _ => simp_all [Val.pd, PyData.eqv, Val.eq, Val.noRef]
  | .fl vs, b, ha, hb => by
    cases b with
    | fl us => simp only [Val.pd, PyData.eqv, Val.eq]; exact eqvs_pd vs us (by simpa [Val.noRef] using ha) (by simpa [Val.noRef] using hb)
    | kl us => simp only [Val.pd, PyData.eqv, Val.eq]; exact eqvs_pd vs us (by simpa [Val.noRef] using ha) (by simpa [Val.noRef] using hb)
    | _ => simp_all [Val.pd, PyData.eqv, Val.eq, Val.noRef]
  | .kl vs, b, ha, hb => by
    cases b with
    | fl us => simp only [Val.pd, PyData.eqv, Val.eq]; exact eqvs_pd vs us (by simpa [Val.noRef] using ha) (by simpa [Val.noRef] using hb)
    | kl us => simp only [Val.pd, PyData.eqv, Val.eq]; exact eqvs_pd vs us (by simpa [Val.noRef] using ha) (by simpa [Val.noRef] using hb)
    | _ => simp_all [Val.pd, PyData.eqv, Val.eq, Val.noRef]
theorem eqvs_pd : ∀ (a b : List Val), Val.noRefs a = true → Val.noRefs b = true → PyData.eqvAll (Val.pds a) (Val.pds b) = Val.eqs a b
  | [], [], _, _ => by simp [Val.pds, PyData.eqvAll, Val.eqs]
  | [], _ :: _, _, _ => by simp [Val.pds, PyData.eqvAll, Val.eqs]
  | _ :: _, [], _, _ => by simp [Val.pds, PyData.eqvAll, Val.eqs]
  | a :: as, b :: bs, ha, hb => by
    simp only [Val.noRefs, Bool.and_eq_true] at ha hb
    simp only [Val.pds, PyData.eqvAll, Val.eqs]
    rw [eqv_pd a b ha.1 hb.1, eqvs_pd as bs ha.2 hb.2]
end
section
variable {K : PySem.W.Frag} {cm : Nat → Addr} {W : XW} {S : Sn}
mutual
theorem dp_of : ∀ (v : Val) {w : V}, v.noRef = true → VRel K S v w → Dp K S.H w v.pd
  | .non, _, _, h => by cases h; simp only [Val.pd]; exact .non
  | .bl b, _, _, h => by cases h; simp only [Val.pd]; exact .bl b
  | .int b, _, _, h => by cases h; simp only [Val.pd]; exact .int b
  | .str x, _, _, ⟨y, h1, h2⟩ => by subst h1; rw [ofL_of h2]; simp only [Val.pd]; exact .str _
  | .ref i, _, h, _ => by simp [Val.noRef] at h
  | .tup vs, _, h, ⟨p, ws, h1, h2, h3⟩ => by subst h1; simp only [Val.pd]; exact .tup h2.sq (dps_of vs (by simpa [Val.noRef] using h) h3)
  | .fl vs, _, h, ⟨p, ws, h1, h2, h3⟩ => by subst h1; simp only [Val.pd]; exact .lst h2.sq (dps_of vs (by simpa [Val.noRef] using h) h3)
  | .kl vs, _, h, ⟨p, ws, h1, h2, h3⟩ => by subst h1; simp only [Val.pd]; exact .lst h2.sq (dps_of vs (by simpa [Val.noRef] using h) h3)
theorem dps_of : ∀ (vs : List Val) {ws : List V}, Val.noRefs vs = true → VRels K S vs ws → DpAll K S.H ws (Val.pds vs)
  | [], _, _, h => by cases h; simp only [Val.pds]; exact .nil
  | v :: vs, _, h, ⟨w, r, h1, h2, h3⟩ => by
    simp only [Val.noRefs, Bool.and_eq_true] at h
    subst h1
    simp only [Val.pds]
    exact .cons (dp_of v h.1 h2) (dps_of vs h.2 h3)
end
/-- may be compared by == -/
def Val.cmpOk (v : Val) : Bool := v.noRef && SeqAt.shaped v.pd
def gEq : Val → Val → Hv → R Val
  | .int a, .int b, h => .ok (.bl (decide (a = b))) h
  | .str a, .str b, h => .ok (.bl (decide (a = b))) h
  | .bl a, .bl b, h => .ok (.bl (decide (a = b))) h
  | a, b, h => if a.cmpOk = true ∧ b.cmpOk = true then .ok (.bl (Val.eq a b)) h else .bad
def gNe : Val → Val → Hv → R Val
  | .int a, .int b, h => .ok (.bl (!decide (a = b))) h
  | .str a, .str b, h => .ok (.bl (!decide (a = b))) h
  | .bl a, .bl b, h => .ok (.bl (!decide (a = b))) h
  | a, b, h => if a.cmpOk = true ∧ b.cmpOk = true then .ok (.bl (!Val.eq a b)) h else .bad
theorem Post.bl {b b' : Bool} {Q : VK} (h : Post K cm W S (.ok (.bl b) S.h) fun v S' => ∀ w, VRel K S' v w → Q w S'.H) (M : MR K cm S) (e : b = b') : Q (.bl b') S.H := by subst e; exact h.here M _ rfl
theorem str_dec {x x' : Str} {a b : List Nat} (h : x.cps.toList = a) (h' : x'.cps.toList = b) : decide (V.str x = V.str x') = decide (a = b) := by
  rw [ofL_of h, ofL_of h']
  by_cases e : a = b
  · subst e; simp
  · rw [decide_eq_false e, decide_eq_false (fun z => e (ofL_inj (V.str.inj z)))]
theorem os_eq : OpS K cm W (fun x y H Q => rEq x y H Q ∨ rEqD K x y H Q) gEq := by
  intro S v1 v2 w1 w2 Q M r1 r2 p
  have gen : (if v1.cmpOk = true ∧ v2.cmpOk = true then R.ok (Val.bl (Val.eq v1 v2)) S.h else R.bad) = gEq v1 v2 S.h → rEq w1 w2 S.H Q ∨ rEqD K w1 w2 S.H Q := fun e => by
    rw [← e] at p
    obtain ⟨⟨h1, h2⟩, p⟩ := Post.ite p
    simp only [Val.cmpOk, Bool.and_eq_true] at h1 h2
    exact .inr ⟨_, _, dp_of v1 h1.1 r1, dp_of v2 h2.1 r2, h1.2, h2.2, p.bl M (eqv_pd v1 v2 h1.1 h2.1).symm⟩
  cases v1 with
  | int a =>
    cases v2 with
    | int b =>
      cases r1; cases r2
      refine .inl ⟨rfl, p.bl M ?_⟩
      by_cases e : a = b
      · subst e; simp
      · rw [decide_eq_false e, decide_eq_false (fun z => e (V.int.inj z))]
    | _ => exact gen rfl
  | str a =>
    cases v2 with
    | str b =>
      obtain ⟨x, rfl, hx⟩ := r1
      obtain ⟨y, rfl, hy⟩ := r2
      exact .inl ⟨rfl, p.bl M (str_dec hx hy).symm⟩
    | _ => exact gen rfl
  | bl a =>
    cases v2 with
    | bl b =>
      cases r1; cases r2
      refine .inl ⟨rfl, p.bl M ?_⟩
      cases a <;> cases b <;> rfl
    | _ => exact gen rfl
  | _ => exact gen rfl
theorem os_ne : OpS K cm W (fun x y H Q => rNe x y H Q ∨ rNeD K x y H Q) gNe := by
  intro S v1 v2 w1 w2 Q M r1 r2 p
  have gen : (if v1.cmpOk = true ∧ v2.cmpOk = true then R.ok (Val.bl (!Val.eq v1 v2)) S.h else R.bad) = gNe v1 v2 S.h → rNe w1 w2 S.H Q ∨ rNeD K w1 w2 S.H Q := fun e => by
    rw [← e] at p
    obtain ⟨⟨h1, h2⟩, p⟩ := Post.ite p
    simp only [Val.cmpOk, Bool.and_eq_true] at h1 h2
    exact .inr ⟨_, _, dp_of v1 h1.1 r1, dp_of v2 h2.1 r2, h1.2, h2.2, p.bl M (by rw [eqv_pd v1 v2 h1.1 h2.1])⟩
  cases v1 with
  | int a =>
    cases v2 with
    | int b =>
      cases r1; cases r2
      refine .inl ⟨rfl, p.bl M ?_⟩
      by_cases e : a = b
      · subst e; simp
      · rw [decide_eq_false e, decide_eq_false (fun z => e (V.int.inj z))]
    | _ => exact gen rfl
  | str a =>
    cases v2 with
    | str b =>
      obtain ⟨x, rfl, hx⟩ := r1
      obtain ⟨y, rfl, hy⟩ := r2
      exact .inl ⟨rfl, p.bl M (by rw [str_dec hx hy])⟩
    | _ => exact gen rfl
  | bl a =>
    cases v2 with
    | bl b =>
      cases r1; cases r2
      refine .inl ⟨rfl, p.bl M ?_⟩
      cases a <;> cases b <;> rfl
    | _ => exact gen rfl
  | _ => exact gen rfl
theorem op_eq' {X : Cx} (hu : X.A.units + 64 < cLine) : OpR X (compareOp .Eq) (fun x y H Q => rEq x y H Q ∨ rEqD X.K x y H Q) := op_eq.or (op_eqD hu)
theorem op_ne' {X : Cx} (hu : X.A.units + 64 < cLine) : OpR X (compareOp .NotEq) (fun x y H Q => rNe x y H Q ∨ rNeD X.K x y H Q) := op_ne.or (op_neD hu)
/-! ### ints -/
def gI (g : Int → Int → Val) : Val → Val → Hv → R Val
  | .int a, .int b, h => .ok (g a b) h
  | _, _, _ => .bad
def gIc (C : Int → Int → Prop) [∀ a b, Decidable (C a b)] (g : Int → Int → Val) : Val → Val → Hv → R Val
  | .int a, .int b, h => if C a b then .ok (g a b) h else .bad
  | _, _, _ => .bad
theorem os_cmp (g : Int → Int → Bool) : OpS K cm W (rI0 fun i j => .bl (g i j)) (gI fun a b => .bl (g a b)) := by
  intro S v1 v2 w1 w2 Q M r1 r2 p
  cases v1 with
  | int a =>
    cases v2 with
    | int b => cases r1; cases r2; exact ⟨a, b, rfl, rfl, p.here M _ rfl⟩
    | _ => exact p.elim
  | _ => cases v2 <;> exact p.elim
theorem os_int (g : Int → Int → Int) : OpS K cm W (rI0 fun i j => .int (g i j)) (gI fun a b => .int (g a b)) := by
  intro S v1 v2 w1 w2 Q M r1 r2 p
  cases v1 with
  | int a =>
    cases v2 with
    | int b => cases r1; cases r2; exact ⟨a, b, rfl, rfl, p.here M _ rfl⟩
    | _ => exact p.elim
  | _ => cases v2 <;> exact p.elim
theorem os_intC (C C' : Int → Int → Prop) [∀ a b, Decidable (C' a b)] (g : Int → Int → Int) (k : ∀ a b, C' a b → C a b) : OpS K cm W (rI C fun i j => .int (g i j)) (gIc C' fun a b => .int (g a b)) := by
  intro S v1 v2 w1 w2 Q M r1 r2 p
  cases v1 with
  | int a =>
    cases v2 with
    | int b =>
      cases r1; cases r2
      obtain ⟨c, p⟩ := Post.ite p
      exact ⟨a, b, rfl, rfl, k a b c, p.here M _ rfl⟩
    | _ => exact p.elim
  | _ => cases v2 <;> exact p.elim
def gSub := gI fun a b => .int (a - b)
def gLt := gI fun a b => .bl (decide (a < b))
def gLe := gI fun a b => .bl (decide (a ≤ b))
def gGt := gI fun a b => .bl (decide (b < a))
def gGe := gI fun a b => .bl (decide (b ≤ a))
def gAnd := gI fun a b => .int (Builtin.bitAnd a b)
def gOr := gI fun a b => .int (Builtin.bitOr a b)
def gXor := gI fun a b => .int (Builtin.bitXor a b)
/-- a % b, 0 < b; a // b, 0 < b and not too great; a * b, one of both not too great (or both) -/
def gMod := gIc (fun _ b => 0 < b) fun a b => .int (a % b)
def gDiv := gIc (fun _ b => 0 < b ∧ b < 1000000000000) fun a b => .int (a / b)
def gMul := gIc (fun a b => (-18446744073709551616 < b ∧ b < 18446744073709551616) ∨ (-18446744073709551616 < a ∧ a < 18446744073709551616)) fun a b => .int (a * b)
def gShl := gIc (fun a b => 0 ≤ b ∧ b ≤ 1000000 ∧ a.natAbs < 18446744073709551616) fun a b => .int (a * 2 ^ b.toNat)
def gShr := gIc (fun _ b => 0 ≤ b) fun a b => .int (a / 2 ^ b.toNat)
theorem os_sub : OpS K cm W (rI0 fun i j => .int (i - j)) gSub := os_int _
theorem os_lt : OpS K cm W (rI0 fun i j => .bl (decide (i < j))) gLt := os_cmp _
theorem os_le : OpS K cm W (rI0 fun i j => .bl (decide (i ≤ j))) gLe := os_cmp _
theorem os_gt : OpS K cm W (rI0 fun i j => .bl (decide (j < i))) gGt := os_cmp _
theorem os_ge : OpS K cm W (rI0 fun i j => .bl (decide (j ≤ i))) gGe := os_cmp _
theorem os_and : OpS K cm W (rI0 fun i j => .int (Builtin.bitAnd i j)) gAnd := os_int _
theorem os_or : OpS K cm W (rI0 fun i j => .int (Builtin.bitOr i j)) gOr := os_int _
theorem os_xor : OpS K cm W (rI0 fun i j => .int (Builtin.bitXor i j)) gXor := os_int _
theorem os_mod : OpS K cm W (rI (fun _ j => 0 < j) fun i j => .int (i % j)) gMod := os_intC _ _ _ fun _ _ h => h
theorem os_div : OpS K cm W (rI CDivW fun i j => .int (i / j)) gDiv := os_intC _ _ _ fun a b h => wide_div (b := 40) h.1 (by omega) (by decide) (by decide)
theorem os_mul : OpS K cm W (rI CMul fun i j => .int (i * j)) gMul := os_intC _ _ _ fun a b h => by unfold CMul; omega
theorem os_shl : OpS K cm W (rI CPow fun i j => .int (i * 2 ^ j.toNat)) gShl := os_intC _ _ _ fun a b h => ⟨h.1, h.2.1, by have := h.2.2; omega⟩
theorem os_shr : OpS K cm W (rI (fun _ j => 0 ≤ j) fun i j => .int (i / 2 ^ j.toNat)) gShr := os_intC _ _ _ fun _ _ h => h
def gNeg : Val → Hv → R Val
  | .int a, h => .ok (.int (-a)) h
  | _, _ => .bad
theorem us_neg : UnS K cm W (rU fun i => .int (-i)) gNeg := by
  intro S v w Q M r p
  cases v with
  | int a => cases r; exact ⟨a, rfl, p.here M _ rfl⟩
  | _ => exact p.elim
/-! a + b: ints, texts, lists, tuples -/
def gAdd : Val → Val → Hv → R Val
  | .int a, .int b, h => .ok (.int (a + b)) h
  | .str a, .str b, h => if a.length + b.length ≤ 16777216 then .ok (.str (a ++ b)) h else .bad
  | .fl a, .fl b, h => if a.length + b.length ≤ 16777216 then .ok (.fl (a ++ b)) h else .bad
  | .tup (a :: as), .tup b, h => if (a :: as).length + b.length ≤ 16777216 then .ok (.tup ((a :: as) ++ b)) h else .bad
  | _, _, _ => .bad
def rAdd' (K : PySem.W.Frag) : R2 := fun x y H Q => rI0 (fun i j => .int (i + j)) x y H Q ∨ (∃ i j, x = .str i ∧ y = .str j ∧ i.length + j.length ≤ sizeLine ∧ Q (.str (i ++ j)) H) ∨ rCat x y H Q ∨ rCatT K x y H Q
theorem op_add' {X : Cx} : OpR X (binaryOp .Add) (rAdd' X.K) := op_add.or (op_add_str.or (op_cat.or op_catT))
theorem str_len {x : Str} {a : List Nat} (h : x.cps.toList = a) : x.length = a.length := by
  rw [ofL_of h]; rfl
theorem str_app {x y : Str} {a b : List Nat} (h : x.cps.toList = a) (h' : y.cps.toList = b) : (x ++ y).cps.toList = a ++ b := by
  rw [ofL_of h, ofL_of h']
  show ((Str.ofL a).cps ++ (Str.ofL b).cps).toList = a ++ b
  simp [Str.ofL]
theorem os_add : OpS K cm W (rAdd' K) gAdd := by
  intro S v1 v2 w1 w2 Q M r1 r2 p
  cases v1 with
  | int a =>
    cases v2 with
    | int b => cases r1; cases r2; exact .inl ⟨a, b, rfl, rfl, p.here M _ rfl⟩
    | _ => exact p.elim
  | str a =>
    cases v2 with
    | str b =>
      obtain ⟨x, rfl, hx⟩ := r1
      obtain ⟨y, rfl, hy⟩ := r2
      obtain ⟨c, p⟩ := Post.ite p
      exact .inr (.inl ⟨x, y, rfl, rfl, by rw [str_len hx, str_len hy, sizeLine_eq]; exact c, p.here M _ ⟨_, rfl, str_app hx hy⟩⟩)
    | _ => exact p.elim
  | fl a =>
    cases v2 with
    | fl b =>
      obtain ⟨x, xs, rfl, hx, rx⟩ := r1
      obtain ⟨y, ys, rfl, hy, ry⟩ := r2
      obtain ⟨c, p⟩ := Post.ite p
      exact .inr (.inr (.inl ⟨x, y, xs, ys, rfl, rfl, hx.1, hy.1, by rw [← rx.length, ← ry.length, sizeLine_eq]; exact c, fun q hq => p.laid M hq _ _ (vrel_fl M hq (rx.append ry))⟩))
    | _ => exact p.elim
  | tup a =>
    cases a with
    | nil => cases v2 <;> exact p.elim
    | cons a0 as =>
      cases v2 with
      | tup b =>
        obtain ⟨x, xs, rfl, hx, rx⟩ := r1
        obtain ⟨y, ys, rfl, hy, ry⟩ := r2
        obtain ⟨c, p⟩ := Post.ite p
        refine .inr (.inr (.inr ⟨x, y, xs, ys, rfl, rfl, hx.sq, hy.sq, fun z => ?_, by rw [← rx.length, ← ry.length, sizeLine_eq]; exact c, fun z => ?_, fun _ q hq => p.laid M hq _ _ (vrel_tup M hq (rx.append ry))⟩))
        · have := rx.length; rw [z] at this; simp at this
        · subst z
          have hb : b = [] := by have := ry.length; simpa using this
          subst hb
          rw [List.append_nil] at p
          exact p.here M _ ⟨x, xs, rfl, hx, rx⟩
      | _ => exact p.elim
  | _ => cases v2 <;> exact p.elim
/-! is None -/
def Val.isNon : Val → Bool
  | .non => true
  | _ => false
def gIsN : Val → Val → Hv → R Val
  | v, .non, h => .ok (.bl v.isNon) h
  | _, _, _ => .bad
def gNotN : Val → Val → Hv → R Val
  | v, .non, h => .ok (.bl (!v.isNon)) h
  | _, _, _ => .bad
theorem non_dec {v : Val} {w : V} (r : VRel K S v w) : v.isNon = decide (w = .non) := by
  cases v with
  | non => cases r; rfl
  | bl b => cases r; rfl
  | int b => cases r; rfl
  | str b => obtain ⟨x, rfl, _⟩ := r; rfl
  | ref b => obtain ⟨x, rfl, _⟩ := r; rfl
  | tup b => obtain ⟨x, _, rfl, _⟩ := r; rfl
  | fl b => obtain ⟨x, _, rfl, _⟩ := r; rfl
  | kl b => obtain ⟨x, _, rfl, _⟩ := r; rfl
theorem os_isN : OpS K cm W (fun x y H Q => y = .non ∧ Q (.bl (decide (x = .non))) H) gIsN := by
  intro S v1 v2 w1 w2 Q M r1 r2 p
  cases v2 with
  | non => cases r2; exact ⟨rfl, p.bl M (non_dec r1)⟩
  | _ => cases v1 <;> exact p.elim
theorem os_notN : OpS K cm W (fun x y H Q => y = .non ∧ Q (.bl (!decide (x = .non))) H) gNotN := by
  intro S v1 v2 w1 w2 Q M r1 r2 p
  cases v2 with
  | non => cases r2; exact ⟨rfl, p.bl M (by rw [non_dec r1])⟩
  | _ => cases v1 <;> exact p.elim
/-! in, not in: flat items of a list or tuple -/
def Val.flat : Val → Bool
  | .non => true
  | .bl _ => true
  | .int _ => true
  | .str _ => true
  | _ => false
theorem flat_of {v : Val} {w : V} (r : VRel K S v w) (f : v.flat = true) : flatV w = true := by
  cases v with
  | non => cases r; rfl
  | bl b => cases r; rfl
  | int b => cases r; rfl
  | str b => obtain ⟨x, rfl, _⟩ := r; rfl
  | _ => cases f
theorem eqV_of {v u : Val} {w x : V} (r : VRel K S v w) (q : VRel K S u x) (f : v.flat = true) (g : u.flat = true) : eqV w x = Val.eq v u := by
  cases v with
  | non => cases r; cases u with
    | non => cases q; rfl
    | bl b => cases q; rfl
    | int b => cases q; rfl
    | str b => obtain ⟨x, rfl, _⟩ := q; rfl
    | _ => cases g
  | bl a => cases r; cases u with
    | non => cases q; rfl
    | bl b => cases q; rfl
    | int b => cases q; rfl
    | str b => obtain ⟨x, rfl, _⟩ := q; rfl
    | _ => cases g
  | int a => cases r; cases u with
    | non => cases q; rfl
    | bl b => cases q; rfl
    | int b => cases q; rfl
    | str b => obtain ⟨x, rfl, _⟩ := q; rfl
    | _ => cases g
  | str a => obtain ⟨y, rfl, hy⟩ := r; cases u with
    | non => cases q; rfl
    | bl b => cases q; rfl
    | int b => cases q; rfl
    | str b => obtain ⟨x, rfl, hx⟩ := q; rw [ofL_of hy, ofL_of hx]; simp only [eqV, Val.eq, str_beq]
    | _ => cases g
  | _ => cases f
theorem flats_of : ∀ {vs : List Val} {ws : List V}, VRels K S vs ws → vs.all Val.flat = true → ws.all flatV = true
  | [], _, h, _ => by cases h; rfl
  | v :: vs, _, ⟨w, r, h1, h2, h3⟩, f => by
    subst h1
    simp only [List.all_cons, Bool.and_eq_true] at f ⊢
    exact ⟨flat_of h2 f.1, flats_of h3 f.2⟩
theorem any_of {v : Val} {w : V} (r : VRel K S v w) (f : v.flat = true) : ∀ {vs : List Val} {ws : List V}, VRels K S vs ws → vs.all Val.flat = true → inV w ws = vs.any fun u => Val.eq u v
  | [], _, h, _ => by cases h; rfl
  | u :: vs, _, ⟨x, rr, h1, h2, h3⟩, g => by
    subst h1
    simp only [List.all_cons, Bool.and_eq_true] at g
    have ih := any_of r f h3 g.2
    unfold inV at ih ⊢
    rw [List.any_cons, List.any_cons, ih, eqV_of h2 r g.1 f]
/-- items -/
def Val.items : Val → Hv → Option (List Val)
  | .tup vs, _ => some vs
  | .fl vs, _ => some vs
  | .kl vs, _ => some vs
  | .ref i, h => match h[i]? with
    | some (.lst vs) => some vs
    | _ => none
  | _, _ => none
/-- items of a list, of a tuple, by the heap -/
theorem items_sq {v : Val} {w : V} {vs : List Val} (M : MR K cm S) (r : VRel K S v w) (h : v.items S.h = some vs) : ∃ p ws, w = .ref p ∧ (SqL K S.H p ws ∨ SqT K S.H p ws) ∧ VRels K S vs ws := by
  cases v with
  | tup us => cases h; obtain ⟨p, ws, rfl, h1, h2⟩ := r; exact ⟨p, ws, rfl, .inr h1.sq, h2⟩
  | fl us => cases h; obtain ⟨p, ws, rfl, h1, h2⟩ := r; exact ⟨p, ws, rfl, .inl h1.sq, h2⟩
  | kl us => cases h; obtain ⟨p, ws, rfl, h1, h2⟩ := r; exact ⟨p, ws, rfl, .inl h1.sq, h2⟩
  | ref i =>
    obtain ⟨p, rfl, hm⟩ := r
    unfold Val.items at h
    cases hc : S.h[i]? with
    | none => simp only [hc] at h; cases h
    | some c =>
      cases c with
      | dead => simp only [hc] at h; cases h
      | lst us =>
        simp only [hc] at h
        cases h
        obtain ⟨ws, h1, h2⟩ := M.obj i _ p hc hm
        exact ⟨p, ws, rfl, .inl (SqL.of h1), h2⟩
  | _ => cases h
def gInB (neg : Bool) : Val → Val → Hv → R Val := fun x y h => match y.items h with
  | some vs => if x.flat = true ∧ vs.all Val.flat = true then .ok (.bl (if neg then !(vs.any fun u => Val.eq u x) else vs.any fun u => Val.eq u x)) h else .bad
  | none => .bad
def gIn := gInB false
def gNotIn := gInB true
theorem os_in (neg : Bool) : OpS K cm W (rIn K neg) (gInB neg) := by
  intro S v1 v2 w1 w2 Q M r1 r2 p
  unfold gInB at p
  cases e : v2.items S.h with
  | none => simp only [e] at p; exact p.elim
  | some vs =>
    simp only [e] at p
    obtain ⟨⟨f, g⟩, p⟩ := Post.ite p
    obtain ⟨q, ws, rfl, h1, h2⟩ := items_sq M r2 e
    exact ⟨q, ws, rfl, h1, flat_of r1 f, flats_of h2 g, p.bl M (by rw [any_of r1 f h2 g])⟩
end
end Sx

set_option Elab.async false
set_option linter.all false
set_option maxRecDepth 100000
set_option maxHeartbeats 2000000
/-! SxCalls: truth, places, slices, built-in functions and methods. -/
namespace Sx
open PySem PySem.Spec L2
open PyProof.Rows hiding St
/-! ### truth -/
def truB : Val → Hv → Option Bool
  | .non, _ => some false
  | .bl b, _ => some b
  | .int i, _ => some (!decide (i = 0))
  | .str x, _ => if x.length ≤ 16777216 then some (!x.isEmpty) else none
  | .tup vs, _ => some (!vs.isEmpty)
  | .fl vs, _ => some (!vs.isEmpty)
  | .kl vs, _ => some (!vs.isEmpty)
  | .ref i, h => match h[i]? with
    | some (.lst vs) => some (!vs.isEmpty)
    | _ => none
def sTru (a : SE) : ST := fun sv h => (a sv h).bind fun v h1 => match truB v h1 with
  | some b => .ok b h1
  | none => .bad
section
variable {X : Cx} {cm : Nat → Addr} {W : XW} {pos : Pos} {a b c e : Expr} {es : List Expr} {fa fb fc : SE} {fs : SA}
theorem tru_of {S : Sn} {v : Val} {w : V} {k : Bool} (M : MR X.K cm S) (r : VRel X.K S v w) (h : truB v S.h = some k) : TruV X.K w S.H k := by
  have emp : ∀ {vs : List Val} {ws : List V}, VRels X.K S vs ws → (!vs.isEmpty) = !ws.isEmpty := fun {vs ws} r => by
    cases vs with
    | nil => cases r; rfl
    | cons v vs => obtain ⟨w, r', e, _, _⟩ := r; subst e; rfl
  cases v with
  | non => cases r; cases h; rfl
  | bl b => cases r; cases h; rfl
  | int i =>
    cases r; cases h
    show (!decide (i = 0)) = (i != 0)
    by_cases e : i = 0
    · subst e; rfl
    · rw [decide_eq_false e]; simp [bne, e]
  | str x =>
    obtain ⟨y, rfl, hy⟩ := r
    have h : (if x.length ≤ 16777216 then some (!x.isEmpty) else none) = some k := h
    by_cases hl : x.length ≤ 16777216
    · rw [if_pos hl] at h
      cases h
      refine ⟨by rw [str_len hy, sizeLine_eq]; exact hl, ?_⟩
      rw [str_len hy]
      cases x with
      | nil => rfl
      | cons c cs =>
        show true = (((c :: cs).length : Int) != 0)
        have : ((c :: cs).length : Int) ≠ 0 := by simp only [List.length_cons]; omega
        have e : (((c :: cs).length : Int) == 0) = false := by rw [beq_eq_false_iff_ne]; exact this
        rw [bne, e]; rfl
    · rw [if_neg hl] at h; cases h
  | tup vs => cases h; obtain ⟨p, ws, rfl, h1, h2⟩ := r; exact .inr (.inl ⟨ws, h1.sq, emp h2⟩)
  | fl vs => cases h; obtain ⟨p, ws, rfl, h1, h2⟩ := r; exact .inl ⟨ws, h1.sq, emp h2⟩
  | kl vs => cases h; obtain ⟨p, ws, rfl, h1, h2⟩ := r; exact .inl ⟨ws, h1.sq, emp h2⟩
  | ref i =>
    obtain ⟨p, rfl, hm⟩ := r
    unfold truB at h
    cases hc : S.h[i]? with
    | none => simp only [hc] at h; cases h
    | some c =>
      cases c with
      | dead => simp only [hc] at h; cases h
      | lst us =>
        simp only [hc] at h
        cases h
        obtain ⟨ws, h1, h2⟩ := M.obj i _ p hc hm
        exact .inl ⟨ws, SqL.of h1, emp h2⟩
theorem jt_tru (ha : JE X cm W a fa) (he : ∀ whole, isTrue a X.env whole = (do let v ← whole; standAt a.pos; holding [v] (truthy v)) := by intro _; rfl) : JT X cm W a (sTru fa) := PT.imp (pt_truth ha he) fun σ H Q ⟨S, sv, e, M, r, p⟩ => by
  subst e
  refine ⟨S, sv, rfl, M, r, Post.bind p fun v S1 e1 M1 p1 w r1 => ?_⟩
  cases hk : truB v S1.h with
  | none => simp only [hk] at p1; exact p1.elim
  | some k => simp only [hk] at p1; exact ⟨k, tru_of M1 r1 hk, p1.here M1⟩
/-! ### places -/
def ixv {α : Type} (xs : List α) (i : Int) : Option α := if 0 ≤ i then xs[i.toNat]? else if 0 ≤ i + xs.length then xs[(i + xs.length).toNat]? else none
theorem ixv_at {α : Type} (xs : List α) (i : Int) : atI xs i = ixv xs i := by
  unfold atI ixN ixv
  by_cases h : 0 ≤ i
  · rw [if_pos h, if_pos h]
    by_cases h2 : i < xs.length
    · rw [if_pos h2]; rfl
    · rw [if_neg h2, List.getElem?_eq_none (by omega)]; rfl
  · rw [if_neg h, if_neg h]
    by_cases h2 : -(xs.length : Int) ≤ i
    · rw [if_pos h2, if_pos (by omega)]; rfl
    · rw [if_neg h2, if_neg (by omega)]; rfl
def gIx : Val → Val → Hv → R Val := fun x y h => match x, y with
  | .str s, .int i => if s.length ≤ 16777216 then (match ixv s i with
    | some c => .ok (.str [c]) h
    | none => .bad) else .bad
  | x, .int i => match x.items h with
    | some vs => (match ixv vs i with
      | some v => .ok v h
      | none => .bad)
    | none => .bad
  | _, _ => .bad
theorem rel_at {S : Sn} {vs : List Val} {ws : List V} {i : Int} {v : Val} (r : VRels X.K S vs ws) (h : ixv vs i = some v) : ∃ w, atI ws i = some w ∧ VRel X.K S v w := by
  rw [ixv_at]
  unfold ixv at h ⊢
  rw [← r.length]
  split at h
  · rw [if_pos (by assumption)]; exact r.get h
  · rw [if_neg (by assumption)]
    split at h
    · rw [if_pos (by assumption)]; exact r.get h
    · cases h
theorem os_ix : OpS X.K cm W (rIx X.K) gIx := by
  intro S v1 v2 w1 w2 Q M r1 r2 p
  cases v2 with
  | int i =>
    cases r2
    have gen : (match v1.items S.h with
        | some vs => (match ixv vs i with
          | some v => R.ok v S.h
          | none => .bad)
        | none => .bad) = gIx v1 (.int i) S.h → rIx X.K w1 (.int i) S.H Q := fun e => by
      rw [← e] at p
      cases hi : v1.items S.h with
      | none => simp only [hi] at p; exact p.elim
      | some vs =>
        simp only [hi] at p
        cases hv : ixv vs i with
        | none => simp only [hv] at p; exact p.elim
        | some v =>
          simp only [hv] at p
          obtain ⟨q, ws, rfl, h1, h2⟩ := items_sq M r1 hi
          obtain ⟨w, h3, h4⟩ := rel_at h2 hv
          rcases h1 with h1 | h1
          · exact .inl ⟨q, ws, i, w, rfl, rfl, h1, h3, p.here M _ h4⟩
          · exact .inr (.inl ⟨q, ws, i, w, rfl, rfl, h1, h3, p.here M _ h4⟩)
    cases v1 with
    | str x =>
      obtain ⟨y, rfl, hy⟩ := r1
      unfold gIx at p
      obtain ⟨hl, p⟩ := Post.ite p
      cases hv : ixv x i with
      | none => simp only [hv] at p; exact p.elim
      | some c =>
        simp only [hv] at p
        exact .inr (.inr ⟨y, i, c, rfl, rfl, by rw [str_len hy, sizeLine_eq]; exact hl, by rw [ixv_at, hy]; exact hv, p.here M _ ⟨_, rfl, rfl⟩⟩)
    | _ => exact gen rfl
  | _ => cases v1 <;> exact p.elim
theorem je_ix (ha : JE X cm W a fa) (hb : JE X cm W b fb) (hs : PlainIx b := by intro _ _; rfl) : JE X cm W (.Subscript a b pos) (sBin gIx fa fb) := PE.imp (pe_ix ix_seq ha hb hs) fun σ H Q ⟨S, sv, e, M, r, p⟩ => by
  subst e
  refine ⟨S, sv, rfl, M, r, Post.bind p fun x S1 e1 M1 p1 w1 r1 => ?_⟩
  refine ⟨S1, sv, rfl, M1, r.ext e1, Post.bind p1 fun y S2 e2 M2 p2 w2 r2 => ?_⟩
  exact os_ix S2 x y w1 w2 Q M2 (VRel.ext e2 x r1) r2 p2
/-! ### slices -/
abbrev SO := Env → Hv → R (Option Int)
def sNo : SO := fun _ h => .ok none h
def sPart (a : SE) : SO := fun sv h => (a sv h).bind fun v h1 => match v with
  | .int i => .ok (some i) h1
  | _ => .bad
def tO (K : PySem.W.Frag) (cm : Nat → Addr) (W : XW) (f : SO) : TO := fun σ H Q => ∃ S sv, S.H = H ∧ MR K cm S ∧ SRel K S sv σ ∧ Post K cm W S (f sv S.h) fun o S' => Q o S'.H
theorem PO.imp {X : Cx} {o : Option Expr} {t t' : TO} (h : PO X o t) (k : ∀ σ H Q, t' σ H Q → t σ H Q) : PO X o t' := ⟨fun pins s σ H Q I q => h.run pins s σ H Q I (k _ _ _ q)⟩
abbrev JO (X : Cx) (cm : Nat → Addr) (W : XW) (e : Option Expr) (f : SO) : Prop := PO X e (tO X.K cm W f)
theorem jo_none : JO X cm W none sNo := PO.imp po_none fun σ H Q ⟨S, sv, e, M, r, p⟩ => by
  subst e
  exact p.here M
theorem jo_some (ha : JE X cm W a fa) : JO X cm W (some a) (sPart fa) := PO.imp (po_some ha) fun σ H Q ⟨S, sv, e, M, r, p⟩ => by
  subst e
  refine ⟨S, sv, rfl, M, r, Post.bind p fun v S1 e1 M1 p1 w r1 => ?_⟩
  cases v with
  | int i => cases r1; exact ⟨i, rfl, p1.here M1⟩
  | _ => exact p1.elim
/-- where a bound of a slice lies -/
def slB (n d : Nat) : Option Int → Nat
  | none => d
  | some i => if i < 0 then (max (i + n) 0).toNat else min i.toNat n
theorem slB_eq (n d : Nat) (o : Option Int) : HT.sIx n d o = slB n d o := by
  cases o with
  | none => rfl
  | some v =>
    have h := HT.clip_eq v n d
    have : (HT.sIx n d (some v) : Int) = (slB n d (some v) : Nat) := by
      rw [← h]
      unfold slB
      simp only
      split <;> rename_i hv
      · have : (0 : Int) ≤ max (v + n) 0 := by omega
        omega
      · have h1 : min v (n : Int) = ((min v.toNat n : Nat) : Int) := by omega
        exact h1
    omega
def cutL {α : Type} (xs : List α) (lo hi : Option Int) : List α := (xs.drop (slB xs.length 0 lo)).take (slB xs.length xs.length hi - slB xs.length 0 lo)
def gSl : Val → Option Int → Option Int → Hv → R Val
  | .fl vs, lo, hi, h => .ok (.fl (cutL vs lo hi)) h
  | .kl vs, lo, hi, h => .ok (.fl (cutL vs lo hi)) h
  | .tup vs, lo, hi, h => if slB vs.length 0 lo = 0 ∧ slB vs.length vs.length hi = vs.length then .bad else .ok (.tup (cutL vs lo hi)) h
  | .str x, lo, hi, h => if x.length ≤ 16777216 then .ok (.str (cutL x lo hi)) h else .bad
  | .ref i, lo, hi, h => match h[i]? with
    | some (.lst vs) => .ok (.fl (cutL vs lo hi)) h
    | _ => .bad
  | _, _, _, _ => .bad
def sSl (a : SE) (l u : SO) : SE := fun sv h => (a sv h).bind fun v h1 => (l sv h1).bind fun lo h2 => (u sv h2).bind fun hi h3 => gSl v lo hi h3
theorem cut_rel {S : Sn} {vs : List Val} {ws : List V} {lo hi : Option Int} (r : VRels X.K S vs ws) : VRels X.K S (cutL vs lo hi) (cutV ws lo hi) := by
  unfold cutL cutV
  rw [← r.length, slB_eq, slB_eq]
  exact (r.drop _).take _
theorem sl_all : SlR X (fun x lo hi H Q => rSlL X.K x lo hi H Q ∨ rSlT X.K x lo hi H Q ∨ rSlS x lo hi H Q) := sl_list.or (sl_tup.or sl_str)
theorem je_sl {l u : Option Expr} {fl fu : SO} {p2 : Pos} (ha : JE X cm W a fa) (hl : JO X cm W l fl) (hu : JO X cm W u fu) : JE X cm W (.Subscript a (.Slice l u none p2) pos) (sSl fa fl fu) := PE.imp (pe_slice sl_all ha hl hu) fun σ H Q ⟨S, sv, e, M, r, p⟩ => by
  subst e
  refine ⟨S, sv, rfl, M, r, Post.bind p fun v S1 e1 M1 p1 w r1 => ?_⟩
  refine ⟨S1, sv, rfl, M1, r.ext e1, Post.bind p1 fun lo S2 e2 M2 p2 => ?_⟩
  refine ⟨S2, sv, rfl, M2, (r.ext e1).ext e2, Post.bind p2 fun hi S3 e3 M3 p3 => ?_⟩
  have r3 := VRel.ext (e2.trans e3) v r1
  cases v with
  | fl vs =>
    obtain ⟨q, ws, rfl, h1, h2⟩ := r3
    exact .inl ⟨q, ws, rfl, h1.sq, fun d hd => p3.laid M3 hd _ _ (vrel_fl M3 hd (cut_rel h2))⟩
  | kl vs =>
    obtain ⟨q, ws, rfl, h1, h2⟩ := r3
    exact .inl ⟨q, ws, rfl, h1.sq, fun d hd => p3.laid M3 hd _ _ (vrel_fl M3 hd (cut_rel h2))⟩
  | tup vs =>
    obtain ⟨q, ws, rfl, h1, h2⟩ := r3
    have p3 : Post X.K cm W S3 (if slB vs.length 0 lo = 0 ∧ slB vs.length vs.length hi = vs.length then R.bad else R.ok (Val.tup (cutL vs lo hi)) S3.h) _ := p3
    by_cases hw : slB vs.length 0 lo = 0 ∧ slB vs.length vs.length hi = vs.length
    · rw [if_pos hw] at p3; exact p3.elim
    · rw [if_neg hw] at p3
      exact .inr (.inl ⟨q, ws, rfl, h1.sq, by rw [← h2.length, slB_eq, slB_eq]; exact hw, fun d hd => p3.laid M3 hd _ _ (vrel_tup M3 hd (cut_rel h2))⟩)
  | str x =>
    obtain ⟨y, rfl, hy⟩ := r3
    obtain ⟨hl, p3⟩ := Post.ite p3
    refine .inr (.inr ⟨y, rfl, by rw [str_len hy, sizeLine_eq]; exact hl, p3.here M3 _ ⟨_, rfl, ?_⟩⟩)
    unfold cutS cutL
    rw [str_len hy, slB_eq, slB_eq, hy]
  | ref i =>
    obtain ⟨q, rfl, hm⟩ := r3
    unfold gSl at p3
    cases hc : S3.h[i]? with
    | none => simp only [hc] at p3; exact p3.elim
    | some c =>
      cases c with
      | dead => simp only [hc] at p3; exact p3.elim
      | lst vs =>
        simp only [hc] at p3
        obtain ⟨ws, h1, h2⟩ := M3.obj i _ q hc hm
        exact .inl ⟨q, ws, rfl, SqL.of h1, fun d hd => p3.laid M3 hd _ _ (vrel_fl M3 hd (cut_rel h2))⟩
  | _ => exact p3.elim
/-! ### built-in functions by name -/
theorem je_callB {x : Str} {p : Pos} {id : String} {r : List V → Hp → VK → Prop} {g : List Val → Hv → R Val} (hc : CallR X (.builtin id) r) (hs : CaS X.K cm W r g) (hg : Gl X x) (hm : X.mg x = none) (hv : bootBuiltins x = some (.builtin id)) (ha : JA X cm W (e :: es) fs) (hn : x ≠ "__name__" := by decide) (hdb : (x == ("__debug__" : Str)) = false := by decide)
    (he : starEach (e :: es) X.env = (false, eval e X.env) :: starEach es X.env := by rfl) (hpl : (backTo pos (starEach es X.env)).any (·.1) = false := by rfl) : JE X cm W (.Call (.Name x p) (e :: es) [] pos) (sCall g fs) := PE.imp (pe_callB hc hg hm hv ha hn hdb he hpl) fun σ H Q ⟨S, sv, e, M, r, p⟩ => by
  subst e
  exact ⟨S, sv, rfl, M, r, Post.bind p fun vs S1 e1 M1 p1 ws r1 => hs S1 vs ws Q M1 r1 p1⟩
theorem je_callTy {x : Str} {p : Pos} {T : String} {r : List V → Hp → VK → Prop} {g : List Val → Hv → R Val} (hc : CallR X (.type T) r) (hs : CaS X.K cm W r g) (hg : Gl X x) (hm : X.mg x = none) (hv : bootBuiltins x = some (.type T)) (ha : JA X cm W (e :: es) fs) (hn : x ≠ "__name__" := by decide) (hdb : (x == ("__debug__" : Str)) = false := by decide)
    (he : starEach (e :: es) X.env = (false, eval e X.env) :: starEach es X.env := by rfl) (hpl : (backTo pos (starEach es X.env)).any (·.1) = false := by rfl) : JE X cm W (.Call (.Name x p) (e :: es) [] pos) (sCall g fs) := PE.imp (pe_callTy hc hg hm hv ha hn hdb he hpl) fun σ H Q ⟨S, sv, e, M, r, p⟩ => by
  subst e
  exact ⟨S, sv, rfl, M, r, Post.bind p fun vs S1 e1 M1 p1 ws r1 => hs S1 vs ws Q M1 r1 p1⟩
theorem rels1 {K : PySem.W.Frag} {S : Sn} {v : Val} {ws : List V} (r : VRels K S [v] ws) : ∃ w, ws = [w] ∧ VRel K S v w := by
  obtain ⟨w, r', e, h1, h2⟩ := r
  cases h2
  exact ⟨w, e, h1⟩
theorem rels2 {K : PySem.W.Frag} {S : Sn} {v u : Val} {ws : List V} (r : VRels K S [v, u] ws) : ∃ w x, ws = [w, x] ∧ VRel K S v w ∧ VRel K S u x := by
  obtain ⟨w, r', e, h1, h2⟩ := r
  obtain ⟨x, rfl, h3⟩ := rels1 h2
  exact ⟨w, x, e, h1, h3⟩
/-- of one, of two values -/
def c1 (g : Val → Hv → R Val) : List Val → Hv → R Val := fun vs h => match vs with
  | v :: [] => g v h
  | _ => .bad
def c2 (g : Val → Val → Hv → R Val) : List Val → Hv → R Val := fun vs h => match vs with
  | v :: u :: [] => g v u h
  | _ => .bad
theorem cs_1 {r : List V → Hp → VK → Prop} {g : Val → Hv → R Val} (k : ∀ (S : Sn) (v : Val) (w : V) (Q : VK), MR X.K cm S → VRel X.K S v w → Post X.K cm W S (g v S.h) (fun v S' => ∀ w, VRel X.K S' v w → Q w S'.H) → r [w] S.H Q) : CaS X.K cm W r (c1 g) := by
  intro S vs ws Q M r p
  cases vs with
  | nil => exact p.elim
  | cons v vs =>
    cases vs with
    | nil => obtain ⟨w, rfl, h⟩ := rels1 r; exact k S v w Q M h p
    | cons u us => exact p.elim
theorem cs_2 {r : List V → Hp → VK → Prop} {g : Val → Val → Hv → R Val} (k : ∀ (S : Sn) (v u : Val) (w x : V) (Q : VK), MR X.K cm S → VRel X.K S v w → VRel X.K S u x → Post X.K cm W S (g v u S.h) (fun v S' => ∀ w, VRel X.K S' v w → Q w S'.H) → r [w, x] S.H Q) : CaS X.K cm W r (c2 g) := by
  intro S vs ws Q M r p
  cases vs with
  | nil => exact p.elim
  | cons v vs =>
    cases vs with
    | nil => exact p.elim
    | cons u us =>
      cases us with
      | nil => obtain ⟨w, x, rfl, h1, h2⟩ := rels2 r; exact k S v u w x Q M h1 h2 p
      | cons y ys => exact p.elim
def gItems (g : List Val → Hv → R Val) : Val → Hv → R Val := fun v h => match v.items h with
  | some vs => g vs h
  | none => .bad
theorem Post.items {S : Sn} {v : Val} {w : V} {g : List Val → Hv → R Val} {P : Val → Sn → Prop} (M : MR X.K cm S) (r : VRel X.K S v w) (p : Post X.K cm W S (gItems g v S.h) P) : ∃ vs q ws, w = .ref q ∧ (SqL X.K S.H q ws ∨ SqT X.K S.H q ws) ∧ VRels X.K S vs ws ∧ Post X.K cm W S (g vs S.h) P := by
  unfold gItems at p
  cases hi : v.items S.h with
  | none => simp only [hi] at p; exact p.elim
  | some us =>
    simp only [hi] at p
    obtain ⟨q, xs, h0, h1, h2⟩ := items_sq M r hi
    exact ⟨us, q, xs, h0, h1, h2, p⟩
def gLen : Val → Hv → R Val := fun v h => match v with
  | .str x => if x.length ≤ 16777216 then .ok (.int x.length) h else .bad
  | v => gItems (fun vs h => .ok (.int vs.length) h) v h
def cLen := c1 gLen
theorem cs_len : CaS X.K cm W (fun xs H Q => ∃ x n, xs = [x] ∧ LenV X.K x H n ∧ Q (.int n) H) cLen := cs_1 fun S v w Q M r p => by
  have gen : gItems (fun vs h => R.ok (.int vs.length) h) v S.h = gLen v S.h → ∃ x n, [w] = [x] ∧ LenV X.K x S.H n ∧ Q (.int n) S.H := fun e => by
    rw [← e] at p
    obtain ⟨us, q, xs, rfl, h1, h2, p⟩ := Post.items M r p
    refine ⟨_, us.length, rfl, ?_, p.here M _ rfl⟩
    rcases h1 with h1 | h1
    · exact .inl ⟨xs, h1, h2.length⟩
    · exact .inr ⟨xs, h1, h2.length⟩
  cases v with
  | str x =>
    obtain ⟨y, rfl, hy⟩ := r
    obtain ⟨hl, p⟩ := Post.ite p
    exact ⟨_, x.length, rfl, ⟨by rw [str_len hy, sizeLine_eq]; exact hl, (str_len hy).symm⟩, p.here M _ rfl⟩
  | _ => exact gen rfl
def cInt := c1 fun v h => match v with
  | .int i => .ok (.int i) h
  | .bl b => .ok (.int (if b = true then 1 else 0)) h
  | _ => .bad
theorem cs_int : CaS X.K cm W (fun xs H Q => (∃ i, xs = [.int i] ∧ Q (.int i) H) ∨ ∃ k, xs = [.bl k] ∧ Q (.int (if k then 1 else 0)) H) cInt := cs_1 fun S v w Q M r p => by
  cases v with
  | int i => cases r; exact .inl ⟨i, rfl, p.here M _ rfl⟩
  | bl i => cases r; exact .inr ⟨i, rfl, p.here M _ rfl⟩
  | _ => exact p.elim
def cAbs := c1 fun v h => match v with
  | .int i => .ok (.int (if i < 0 then -i else i)) h
  | _ => .bad
theorem cs_abs : CaS X.K cm W (fun xs H Q => ∃ i, xs = [.int i] ∧ Q (.int (if i < 0 then -i else i)) H) cAbs := cs_1 fun S v w Q M r p => by
  cases v with
  | int i => cases r; exact ⟨i, rfl, p.here M _ rfl⟩
  | _ => exact p.elim
theorem cs_i2 (g : Int → Int → Int) : CaS X.K cm W (fun xs H Q => ∃ i j, xs = [.int i, .int j] ∧ Q (.int (g i j)) H) (c2 (gI fun i j => .int (g i j))) := cs_2 fun S v u w x Q M r q p => by
  cases v with
  | int i =>
    cases u with
    | int j => cases r; cases q; exact ⟨i, j, rfl, p.here M _ rfl⟩
    | _ => exact p.elim
  | _ => cases u <;> exact p.elim
def cMax := c2 (gI fun i j => .int (if j > i then j else i))
def cMin := c2 (gI fun i j => .int (if j < i then j else i))
theorem cs_max : CaS X.K cm W (fun xs H Q => ∃ i j, xs = [.int i, .int j] ∧ Q (.int (if j > i then j else i)) H) cMax := cs_i2 fun i j => if j > i then j else i
theorem cs_min : CaS X.K cm W (fun xs H Q => ∃ i j, xs = [.int i, .int j] ∧ Q (.int (if j < i then j else i)) H) cMin := cs_i2 fun i j => if j < i then j else i
/-- list(x), not changed again; list(x), to be changed -/
def cList := c1 (gItems fun vs h => .ok (.fl vs) h)
def cListN := c1 (gItems fun vs h => .ok (.ref h.length) (h ++ [.lst vs]))
theorem cs_list : CaS X.K cm W (fun xs H Q => ∃ p ys, xs = [.ref p] ∧ (SqL X.K H p ys ∨ SqT X.K H p ys) ∧ ∀ l, H l = none → Q (.ref l) (upd H l (.lst ys))) cList := cs_1 fun S v w Q M r p => by
  obtain ⟨us, q, xs, rfl, h1, h2, p⟩ := Post.items M r p
  exact ⟨q, xs, rfl, h1, fun l hl => p.laid M hl _ _ (vrel_fl M hl h2)⟩
theorem cs_listN : CaS X.K cm W (fun xs H Q => ∃ p ys, xs = [.ref p] ∧ (SqL X.K H p ys ∨ SqT X.K H p ys) ∧ ∀ l, H l = none → Q (.ref l) (upd H l (.lst ys))) cListN := cs_1 fun S v w Q M r p => by
  obtain ⟨us, q, xs, rfl, h1, h2, p⟩ := Post.items M r p
  refine ⟨q, xs, rfl, h1, fun l hl => ?_⟩
  obtain ⟨z, y⟩ := p.newd M hl h2
  exact z _ y
/-- tuple(x) -/
def gTup' : Val → Hv → R Val := fun v h => match v with
  | .tup vs => .ok (.tup vs) h
  | v => gItems (fun vs h => .ok (.tup vs) h) v h
def cTup := c1 gTup'
theorem cs_tup : CaS X.K cm W (fun xs H Q => ∃ p ys, xs = [.ref p] ∧ ((SqL X.K H p ys ∧ ∀ l, H l = none → Q (.ref l) (upd H l (.tup ys))) ∨ (SqT X.K H p ys ∧ Q (.ref p) H))) cTup := cs_1 fun S v w Q M r p => by
  have gen : (∀ us, v ≠ .tup us) → gItems (fun vs h => R.ok (.tup vs) h) v S.h = gTup' v S.h → ∃ p ys, [w] = [.ref p] ∧ ((SqL X.K S.H p ys ∧ ∀ l, S.H l = none → Q (.ref l) (upd S.H l (.tup ys))) ∨ (SqT X.K S.H p ys ∧ Q (.ref p) S.H)) := fun nt e => by
    rw [← e] at p
    unfold gItems at p
    cases hi : v.items S.h with
    | none => simp only [hi] at p; exact p.elim
    | some us =>
      simp only [hi] at p
      have hL : ∃ q xs, w = .ref q ∧ SqL X.K S.H q xs ∧ VRels X.K S us xs := by
        cases v with
        | tup vs => exact absurd rfl (nt vs)
        | fl vs => cases hi; obtain ⟨q, xs, e, h1, h2⟩ := r; exact ⟨q, xs, e, h1.sq, h2⟩
        | kl vs => cases hi; obtain ⟨q, xs, e, h1, h2⟩ := r; exact ⟨q, xs, e, h1.sq, h2⟩
        | ref i =>
          obtain ⟨q, rfl, hm⟩ := r
          unfold Val.items at hi
          cases hc : S.h[i]? with
          | none => simp only [hc] at hi; cases hi
          | some c =>
            cases c with
            | dead => simp only [hc] at hi; cases hi
            | lst vs =>
              simp only [hc] at hi
              cases hi
              obtain ⟨xs, h1, h2⟩ := M.obj i _ q hc hm
              exact ⟨q, xs, rfl, SqL.of h1, h2⟩
        | _ => cases hi
      obtain ⟨q, xs, rfl, h1, h2⟩ := hL
      exact ⟨q, xs, rfl, .inl ⟨h1, fun l hl => p.laid M hl _ _ (vrel_tup M hl h2)⟩⟩
  cases v with
  | tup vs =>
    obtain ⟨q, xs, rfl, h1, h2⟩ := r
    exact ⟨q, xs, rfl, .inr ⟨h1.sq, p.here M _ ⟨q, xs, rfl, h1, h2⟩⟩⟩
  | _ => exact gen (fun _ z => nomatch z) rfl
/-- all(xs), any(xs), xs a list of True and False -/
def Val.bl? : Val → Option Bool
  | .bl b => some b
  | _ => none
def blsOf : List Val → Option (List Bool)
  | [] => some []
  | v :: vs => v.bl?.bind fun b => (blsOf vs).map (b :: ·)
theorem bls_rel {K : PySem.W.Frag} {S : Sn} : ∀ {vs : List Val} {ws : List V} {bs : List Bool}, VRels K S vs ws → blsOf vs = some bs → ws = bs.map V.bl
  | [], _, _, r, h => by cases r; cases h; rfl
  | v :: vs, _, _, ⟨w, r', e, h1, h2⟩, h => by
    subst e
    unfold blsOf at h
    cases v with
    | bl b =>
      cases h1
      cases hb : blsOf vs with
      | none => simp [Val.bl?, hb] at h
      | some bs =>
        simp only [Val.bl?, hb, Option.bind_some, Option.map_some, Option.some.injEq] at h
        subst h
        rw [bls_rel h2 hb]; rfl
    | _ => simp [Val.bl?] at h
def gBls (g : List Bool → Bool) : Val → Hv → R Val := fun v h => match v with
  | .fl us => (match blsOf us with
    | some bs => .ok (.bl (g bs)) h
    | none => .bad)
  | _ => .bad
def cAll := c1 (gBls fun bs => bs.all id)
def cAny := c1 (gBls fun bs => bs.any id)
theorem cs_bls (g : List Bool → Bool) : CaS X.K cm W (fun vs H Q => ∃ (a : Addr) (bs : List Bool), vs = [V.ref a] ∧ SqL X.K H a (bs.map V.bl) ∧ Q (.bl (g bs)) H) (c1 (gBls g)) := cs_1 fun S v w Q M r p => by
  cases v with
  | fl us =>
    obtain ⟨q, xs, rfl, h1, h2⟩ := r
    unfold gBls at p
    cases hb : blsOf us with
    | none => simp only [hb] at p; exact p.elim
    | some bs =>
      simp only [hb] at p
      have := bls_rel h2 hb
      subst this
      exact ⟨q, bs, rfl, h1.sq, p.here M _ rfl⟩
  | _ => exact p.elim
theorem cs_all : CaS X.K cm W (rAll X.K) cAll := cs_bls _
theorem cs_any : CaS X.K cm W (rAny X.K) cAny := cs_bls _
/-! ### isinstance(x, T), T a built-in type -/
def Val.kind : Val → Hv → Option Nat
  | .non, _ => some 0
  | .bl _, _ => some 1
  | .int _, _ => some 2
  | .str _, _ => some 3
  | .tup _, _ => some 4
  | .fl _, _ => some 5
  | .kl _, _ => some 5
  | .ref i, h => match h[i]? with
    | some (.lst _) => some 5
    | _ => none
def kname : Nat → String
  | 0 => "NoneType"
  | 1 => "bool"
  | 2 => "int"
  | 3 => "str"
  | 4 => "tuple"
  | 5 => "list"
  | _ => "dict"
def gIsi (tb : Nat → Bool) : Val → Hv → R Val := fun v h => match v.kind h with
  | some k => .ok (.bl (tb k)) h
  | none => .bad
theorem tyx_of {S : Sn} {v : Val} {w : V} {k : Nat} (M : MR X.K cm S) (r : VRel X.K S v w) (h : v.kind S.h = some k) : TyX X.K S.H w (.type (kname k)) := by
  cases v with
  | non => cases r; cases h; exact .base .non
  | bl b => cases r; cases h; exact .base (.bl b)
  | int b => cases r; cases h; exact .base (.int b)
  | str b => obtain ⟨y, rfl, _⟩ := r; cases h; exact .base (.str y)
  | tup vs =>
    obtain ⟨p, ws, rfl, h1, _⟩ := r
    cases h
    rcases h1 with h1 | ⟨o, its, n, h1, h2, _⟩
    · exact .base (.tup h1.1)
    · exact .kTuple h1 h2
  | fl vs => obtain ⟨p, ws, rfl, h1, _⟩ := r; cases h; exact .base (.lst h1.1)
  | kl vs =>
    obtain ⟨p, ws, rfl, h1, _⟩ := r
    cases h
    rcases h1 with ⟨h1 | ⟨o, h1⟩, _⟩ | ⟨o, its, n, h1, h2, _⟩
    · exact .base (.lst h1)
    · exact .base (.frz h1)
    · exact .kList h1 h2
  | ref i =>
    obtain ⟨p, rfl, hm⟩ := r
    unfold Val.kind at h
    cases hc : S.h[i]? with
    | none => simp only [hc] at h; cases h
    | some c =>
      cases c with
      | dead => simp only [hc] at h; cases h
      | lst us =>
        simp only [hc] at h
        cases h
        obtain ⟨ws, h1, _⟩ := M.obj i _ p hc hm
        exact .base (.lst h1)
theorem je_isi {x y : Str} {p p2 : Pos} {T : String} {tb : Nat → Bool} (hk : ∀ k, k < 6 → kitB (kname k) T = some (tb k)) (hg : Gl X x) (hm : X.mg x = none) (hv : bootBuiltins x = some (.builtin "isinstance")) (hgT : Gl X y) (hmT : X.mg y = none) (hvT : bootBuiltins y = some (.type T)) (ha : JE X cm W a fa)
    (hn : x ≠ "__name__" := by decide) (hdb : (x == ("__debug__" : Str)) = false := by decide) (hn2 : y ≠ "__name__" := by decide) (hdb2 : (y == ("__debug__" : Str)) = false := by decide)
    (he : starEach [a, .Name y p2] X.env = (false, eval a X.env) :: starEach [.Name y p2] X.env := by rfl) (he2 : starEach [.Name y p2] X.env = (false, eval (.Name y p2) X.env) :: starEach [] X.env := by rfl) (hpl : (backTo pos (starEach [.Name y p2] X.env)).any (·.1) = false := by rfl) :
    JE X cm W (.Call (.Name x p) [a, .Name y p2] [] pos) (sUn (gIsi tb) fa) := PE.imp (pe_callB call_isi hg hm hv (pa_cons ha (pa_cons (pe_bltn (v := .ty T) hgT hmT hvT rfl hn2 hdb2) pa_nil he2) he) hn hdb he hpl) fun σ H Q ⟨S, sv, e, M, r, p⟩ => by
  subst e
  refine ⟨S, sv, rfl, M, r, Post.bind p fun v S1 e1 M1 p1 w r1 => ?_⟩
  unfold gIsi at p1
  cases hkd : v.kind S1.h with
  | none => simp only [hkd] at p1; exact p1.elim
  | some k =>
    simp only [hkd] at p1
    have hlt : k < 6 := by
      cases v with
      | ref i =>
        unfold Val.kind at hkd
        cases hc : S1.h[i]? with
        | none => simp only [hc] at hkd; cases hkd
        | some c =>
          cases c with
          | dead => simp only [hc] at hkd; cases hkd
          | lst us => simp only [hc] at hkd; cases hkd; decide
      | _ => cases hkd; decide
    exact ⟨w, .ty T, .type (kname k), .type T, tb k, rfl, .ty T, tyx_of M1 r1 hkd, kit_ty (hk k hlt), p1.here M1 _ rfl⟩
end
end Sx

set_option Elab.async false
set_option linter.all false
set_option maxRecDepth 100000
set_option maxHeartbeats 2000000
/-! SxMeth: methods of lists, stores at places, x op= e. -/
namespace Sx
open PySem PySem.Spec L2
open PyProof.Rows hiding St
section
variable {X : Cx} {cm : Nat → Addr} {W : XW} {pos : Pos} {a b c e o : Expr} {es : List Expr} {fa fb fc fo : SE} {fs : SA}
/-- a method's semantics: the object, the arguments -/
def MeS (K : PySem.W.Frag) (cm : Nat → Addr) (W : XW) (r : V → List V → Hp → VK → Prop) (g : Val → List Val → Hv → R Val) : Prop := ∀ (S : Sn) (v : Val) (vs : List Val) (w : V) (ws : List V) (Q : VK), MR K cm S → VRel K S v w → VRels K S vs ws → Post K cm W S (g v vs S.h) (fun v S' => ∀ w, VRel K S' v w → Q w S'.H) → r w ws S.H Q
/-- a list of any kind -/
def Val.isL : Val → Hv → Bool
  | .fl _, _ => true
  | .kl _, _ => true
  | .ref i, h => match h[i]? with
    | some (.lst _) => true
    | _ => false
  | _, _ => false
def sMeth0 (g : Val → List Val → Hv → R Val) (o : SE) : SE := fun sv h => (o sv h).bind fun v h1 => if v.isL h1 = true then g v [] h1 else .bad
def sMeth (g : Val → List Val → Hv → R Val) (o : SE) (fs : SA) : SE := fun sv h => (o sv h).bind fun v h1 => if v.isL h1 = true then (fs sv h1).bind fun vs h2 => g v vs h2 else .bad
theorem tyv_of {S : Sn} {v : Val} {w : V} (M : MR X.K cm S) (r : VRel X.K S v w) (h : v.isL S.h = true) : tyV X.K "list" w S.H := by
  cases v with
  | fl vs => obtain ⟨p, ws, rfl, h1, _⟩ := r; exact .inl ⟨rfl, ws, h1.sq⟩
  | kl vs => obtain ⟨p, ws, rfl, h1, _⟩ := r; exact .inl ⟨rfl, ws, h1.sq⟩
  | ref i =>
    obtain ⟨p, rfl, hm⟩ := r
    unfold Val.isL at h
    cases hc : S.h[i]? with
    | none => simp only [hc] at h; cases h
    | some c =>
      cases c with
      | dead => simp only [hc] at h; cases h
      | lst vs =>
        obtain ⟨ws, h1, _⟩ := M.obj i _ p hc hm
        exact .inl ⟨rfl, ws, SqL.of h1⟩
  | _ => cases h
theorem je_meth0 {name : Str} {apos cpos : Pos} {id : String} {r : V → List V → Hp → VK → Prop} {g : Val → List Val → Hv → R Val} (slot : Slot "list" name id) (hty : typeOf (.builtin id) = pure (.type "method_descriptor")) (hm : MtR X id r) (hs : MeS X.K cm W r g) (ho : JE X cm W o fo)
    (hbase : attributeBase o name X.env (eval o X.env) = eval o X.env := by rfl) (hline : (apos.endLine == cpos.line) = true := by rfl) : JE X cm W (.Call (.Attribute o name apos) [] [] cpos) (sMeth0 g fo) :=
  PE.imp (pe_bm0 PySem.F.plainAttrs_list slot hty hm ho hbase hline) fun σ H Q ⟨S, sv, e, M, r, p⟩ => by
    subst e
    refine ⟨S, sv, rfl, M, r, Post.bind p fun v S1 e1 M1 p1 w r1 => ?_⟩
    obtain ⟨hl, p1⟩ := Post.ite p1
    exact ⟨tyv_of M1 r1 hl, hs S1 v [] w [] Q M1 r1 VRels.nil p1⟩
theorem je_meth {name : Str} {apos cpos : Pos} {id : String} {r : V → List V → Hp → VK → Prop} {g : Val → List Val → Hv → R Val} (slot : Slot "list" name id) (hty : typeOf (.builtin id) = pure (.type "method_descriptor")) (hm : MtR X id r) (hs : MeS X.K cm W r g) (ho : JE X cm W o fo) (ha : JA X cm W (e :: es) fs)
    (hbase : attributeBase o name X.env (eval o X.env) = eval o X.env := by rfl)
    (hfew : ((backTo cpos (starEach (e :: es) X.env)).all (fun x => !x.1) && (backToKw cpos (keywordEach [] X.env)).all (fun x => x.1.isSome)
      && decide ((e :: es).length + ([] : List Keyword).length + (if ([] : List Keyword).isEmpty then 0 else 1) < 30)) = true := by rfl)
    (hline : (apos.endLine == cpos.line) = true := by rfl) (hst : starEach (e :: es) X.env = (false, eval e X.env) :: starEach es X.env := by rfl) (hplain : (backTo cpos (starEach es X.env)).any (·.1) = false := by rfl) : JE X cm W (.Call (.Attribute o name apos) (e :: es) [] cpos) (sMeth g fo fs) :=
  PE.imp (pe_bm PySem.F.plainAttrs_list slot hty hm ho ha hbase hfew hline hst hplain) fun σ H Q ⟨S, sv, e, M, r, p⟩ => by
    subst e
    refine ⟨S, sv, rfl, M, r, Post.bind p fun v S1 e1 M1 p1 w r1 => ?_⟩
    obtain ⟨hl, p1⟩ := Post.ite p1
    refine ⟨tyv_of M1 r1 hl, S1, sv, rfl, M1, r.ext e1, Post.bind p1 fun vs S2 e2 M2 p2 ws r2 => hs S2 v vs w ws Q M2 (VRel.ext e2 v r1) r2 p2⟩
/-- a cell changed -/
theorem Post.put {S : Sn} {α : Type} {u : α} {i : Nat} {p : Addr} {vs us : List Val} {xs : List V} {P : α → Sn → Prop} (h : Post X.K cm W S (.ok u (S.h.set i (.lst us))) P) (M : MR X.K cm S) (hm : S.m[i]? = some p) (hc : S.h[i]? = some (.lst vs)) (r : VRels X.K S us xs) : P u (S.put i p (.lst xs) (.lst us)) := by
  have e := ext_put (o := .lst xs) (c := .lst us) M hm hc (fun z => nomatch z)
  exact h _ rfl e (mr_put M hm hc (fun z => nomatch z) ⟨xs, upd_same, VRels.ext e us r⟩)
def onCell (g : List Val → Hv → R (Val × List Val)) : Val → Hv → R Val := fun v h => match v with
  | .ref i => (match h[i]? with
    | some (.lst vs) => (g vs h).bind fun p h1 => .ok p.1 (h1.set i (.lst p.2))
    | _ => .bad)
  | _ => .bad
def lApp (y : Val) : List Val → Hv → R (Val × List Val) := fun vs h => if vs.length < 16777216 then .ok (.non, vs ++ [y]) h else .bad
def mAppend : Val → List Val → Hv → R Val := fun v us h => match us with
  | y :: [] => onCell (lApp y) v h
  | _ => .bad
theorem Post.cell {S : Sn} {v : Val} {w : V} {g : List Val → Hv → R (Val × List Val)} {P : Val → Sn → Prop} (M : MR X.K cm S) (r : VRel X.K S v w) (p : Post X.K cm W S (onCell g v S.h) P) : ∃ i q vs ws, v = .ref i ∧ w = .ref q ∧ S.m[i]? = some q ∧ S.h[i]? = some (.lst vs) ∧ S.H q = some (.lst ws) ∧ VRels X.K S vs ws ∧
    Post X.K cm W S ((g vs S.h).bind fun p h1 => .ok p.1 (h1.set i (.lst p.2))) P := by
  cases v with
  | ref i =>
    obtain ⟨q, rfl, hm⟩ := r
    unfold onCell at p
    cases hc : S.h[i]? with
    | none => simp only [hc] at p; exact p.elim
    | some c =>
      cases c with
      | dead => simp only [hc] at p; exact p.elim
      | lst vs =>
        simp only [hc] at p
        obtain ⟨ws, h1, h2⟩ := M.obj i _ q hc hm
        exact ⟨i, q, vs, ws, rfl, rfl, hm, hc, h1, h2, p⟩
  | _ => exact p.elim
theorem ms_append : MeS X.K cm W rAppend mAppend := by
  intro S v vs w ws Q M r rs p
  cases vs with
  | nil => exact p.elim
  | cons y ys =>
    cases ys with
    | cons _ _ => exact p.elim
    | nil =>
      obtain ⟨x, rfl, rx⟩ := rels1 rs
      obtain ⟨i, q, us, xs, rfl, rfl, hm, hc, hH, ru, p⟩ := Post.cell (g := lApp y) M r p
      unfold lApp at p
      by_cases hl : us.length < 16777216
      · rw [if_pos hl] at p
        exact ⟨q, xs, x, rfl, rfl, hH, by rw [← ru.length, sizeLine_eq]; exact hl, Post.put p M hm hc (ru.append (VRels.cons rx VRels.nil)) _ rfl⟩
      · rw [if_neg hl] at p; exact p.elim
theorem mt_append' : MtR X "list.append" rAppend := mt_append
theorem VRels.dropLast {K : PySem.W.Frag} {S : Sn} {vs : List Val} {ws : List V} (r : VRels K S vs ws) : VRels K S vs.dropLast ws.dropLast := by
  rw [List.dropLast_eq_take, List.dropLast_eq_take, r.length]
  exact r.take _
def lPop : List Val → Hv → R (Val × List Val) := fun vs h => match vs.getLast? with
    | some y => .ok (y, vs.dropLast) h
    | none => .bad
def lPopAt (k : Int) : List Val → Hv → R (Val × List Val) := fun vs h => if -4611686018427387904 ≤ k ∧ k < 4611686018427387904 then (match ixv vs k with
    | some y => .ok (y, vs.eraseIdx (if 0 ≤ k then k.toNat else (k + vs.length).toNat)) h
    | none => .bad) else .bad
def mPop : Val → List Val → Hv → R Val := fun v us h => match us with
  | [] => onCell lPop v h
  | i :: [] => (match i with
    | .int k => onCell (lPopAt k) v h
    | _ => .bad)
  | _ => .bad
def rPop' : V → List V → Hp → VK → Prop := fun x xs H Q => rPop x xs H Q ∨ rPopAt x xs H Q
theorem mt_pop' : MtR X "list.pop" rPop' := MtR.or (r := rPop) (r' := rPopAt) mt_pop mt_popAt
theorem ms_pop : MeS X.K cm W rPop' mPop := by
  intro S v vs w ws Q M r rs p
  cases vs with
  | nil =>
    cases rs
    obtain ⟨i, q, us, xs, rfl, rfl, hm, hc, hH, ru, p⟩ := Post.cell (g := lPop) M r p
    unfold lPop at p
    cases hy : us.getLast? with
    | none => simp only [hy] at p; exact p.elim
    | some y =>
      simp only [hy] at p
      have hy' : us[us.length - 1]? = some y := by rw [← List.getLast?_eq_getElem?]; exact hy
      obtain ⟨x, hx, rx⟩ := ru.get hy'
      rw [ru.length] at hx
      have e := ext_put (o := .lst xs.dropLast) (c := .lst us.dropLast) M hm hc (fun z => nomatch z)
      exact .inl ⟨q, xs, x, rfl, rfl, hH, hx, Post.put p M hm hc ru.dropLast _ (VRel.ext e y rx)⟩
  | cons i0 rest =>
    cases rest with
    | cons _ _ => exact p.elim
    | nil =>
      cases i0 with
      | int k =>
        obtain ⟨x0, rfl, rx0⟩ := rels1 rs
        cases rx0
        obtain ⟨i, q, us, xs, rfl, rfl, hm, hc, hH, ru, p⟩ := Post.cell (g := lPopAt k) M r p
        unfold lPopAt at p
        by_cases hk : -4611686018427387904 ≤ k ∧ k < 4611686018427387904
        rotate_left
        · rw [if_neg hk] at p; exact p.elim
        rw [if_pos hk] at p
        cases hy : ixv us k with
        | none => simp only [hy] at p; exact p.elim
        | some y =>
          simp only [hy] at p
          generalize hj : (if 0 ≤ k then k.toNat else (k + us.length).toNat) = j at p
          have hjy : us[j]? = some y ∧ seqIndex? k us.length = some j ∧ -(us.length : Int) ≤ k ∧ k < us.length := by
            unfold ixv at hy
            by_cases h0 : 0 ≤ k
            · rw [if_pos h0] at hy hj
              have hl := (List.getElem?_eq_some_iff.mp hy).1
              refine ⟨by rw [← hj]; exact hy, ?_, by omega, by omega⟩
              unfold seqIndex?
              simp only
              rw [if_neg (show ¬ k < 0 by omega), if_pos (by simp; omega), hj]
            · rw [if_neg h0] at hy hj
              by_cases h1 : 0 ≤ k + us.length
              · rw [if_pos h1] at hy
                refine ⟨by rw [← hj]; exact hy, ?_, by omega, by omega⟩
                unfold seqIndex?
                simp only
                rw [if_pos (show k < 0 by omega), if_pos (by simp; omega), hj]
              · rw [if_neg h1] at hy; cases hy
          obtain ⟨x, hx, rx⟩ := ru.get hjy.1
          have e := ext_put (o := .lst (xs.eraseIdx j)) (c := .lst (us.eraseIdx j)) M hm hc (fun z => nomatch z)
          exact .inr ⟨q, xs, k, j, x, rfl, rfl, hH, by omega, by omega, by rw [← ru.length]; exact hjy.2.1, hx, Post.put p M hm hc (ru.erase j) _ (VRel.ext e y rx)⟩
      | _ => exact p.elim
/-- xs.extend(ys), both lists of ours -/
def lExt (ys : List Val) : List Val → Hv → R (Val × List Val) := fun vs h => if vs.length + ys.length ≤ 16777216 then .ok (.non, vs ++ ys) h else .bad
def mExtend : Val → List Val → Hv → R Val := fun v us h => match us with
  | u :: [] => (match u with
    | .fl ys => onCell (lExt ys) v h
    | _ => .bad)
  | _ => .bad
theorem ms_extend : MeS X.K cm W rExtend mExtend := by
  intro S v vs w ws Q M r rs p
  cases vs with
  | nil => exact p.elim
  | cons u us =>
    cases us with
    | cons _ _ => exact p.elim
    | nil =>
      cases u with
      | fl ys =>
        obtain ⟨x, rfl, b, zs, rfl, hb, rz⟩ := rels1 rs
        obtain ⟨i, q, us, xs, rfl, rfl, hm, hc, hH, ru, p⟩ := Post.cell (g := lExt ys) M r p
        unfold lExt at p
        by_cases hl : us.length + ys.length ≤ 16777216
        · rw [if_pos hl] at p
          exact ⟨q, b, xs, zs, rfl, rfl, hH, hb.1, by rw [← ru.length, ← rz.length, sizeLine_eq]; exact hl, Post.put p M hm hc (ru.append rz) _ rfl⟩
        · rw [if_neg hl] at p; exact p.elim
      | _ => exact p.elim
theorem mt_extend' : MtR X "list.extend" rExtend := mt_extend
/-- xs.index(y), flat items -/
def firstAt (y : Val) : List Val → Option Nat
  | [] => none
  | v :: vs => if Val.eq v y = true then some 0 else (firstAt y vs).map (· + 1)
def gItemsL (g : List Val → Hv → R Val) : Val → Hv → R Val := fun v h => if v.isL h = true then gItems g v h else .bad
theorem Post.itemsL {S : Sn} {v : Val} {w : V} {g : List Val → Hv → R Val} {P : Val → Sn → Prop} (M : MR X.K cm S) (r : VRel X.K S v w) (p : Post X.K cm W S (gItemsL g v S.h) P) : ∃ vs q ws, w = .ref q ∧ SqL X.K S.H q ws ∧ VRels X.K S vs ws ∧ Post X.K cm W S (g vs S.h) P := by
  obtain ⟨hl, p2⟩ := Post.ite p
  clear p
  unfold gItems at p2
  cases hi : v.items S.h with
  | none => simp only [hi] at p2; exact p2.elim
  | some us =>
    simp only [hi] at p2
    cases v with
    | fl vs => cases hi; obtain ⟨q, xs, e, h1, h2⟩ := r; exact ⟨us, q, xs, e, h1.sq, h2, p2⟩
    | kl vs => cases hi; obtain ⟨q, xs, e, h1, h2⟩ := r; exact ⟨us, q, xs, e, h1.sq, h2, p2⟩
    | ref i =>
      obtain ⟨q, rfl, hm⟩ := r
      unfold Val.items at hi
      cases hc : S.h[i]? with
      | none => simp only [hc] at hi; cases hi
      | some c =>
        cases c with
        | dead => simp only [hc] at hi; cases hi
        | lst vs =>
          simp only [hc] at hi
          cases hi
          obtain ⟨xs, h1, h2⟩ := M.obj i _ q hc hm
          exact ⟨us, q, xs, rfl, SqL.of h1, h2, p2⟩
    | _ => cases hl
def gIndex (y : Val) : List Val → Hv → R Val := fun vs h => if y.flat = true ∧ vs.all Val.flat = true then (match firstAt y vs with
    | some j => .ok (.int j) h
    | none => .bad) else .bad
def mIndex : Val → List Val → Hv → R Val := fun v us h => match us with
  | y :: [] => gItemsL (gIndex y) v h
  | _ => .bad
theorem first_of {S : Sn} {y : Val} {wy : V} (ry : VRel X.K S y wy) (fy : y.flat = true) : ∀ {vs : List Val} {ws : List V} {j : Nat}, VRels X.K S vs ws → vs.all Val.flat = true → firstAt y vs = some j → ∃ z, ws[j]? = some z ∧ eqV z wy = true ∧ ∀ (m : Nat) (z' : V), m < j → ws[m]? = some z' → eqV z' wy = false
  | [], _, _, _, _, h => by cases h
  | v :: vs, _, j, ⟨w, r, e, h1, h2⟩, f, h => by
    subst e
    simp only [List.all_cons, Bool.and_eq_true] at f
    have ev := eqV_of h1 ry f.1 fy
    unfold firstAt at h
    by_cases hv : Val.eq v y = true
    · rw [if_pos hv] at h
      cases h
      exact ⟨w, rfl, by rw [ev]; exact hv, fun m z' hm => absurd hm (Nat.not_lt_zero m)⟩
    · rw [if_neg hv] at h
      cases hf : firstAt y vs with
      | none => rw [hf] at h; cases h
      | some i =>
        rw [hf] at h
        cases h
        obtain ⟨z, q1, q2, q3⟩ := first_of ry fy h2 f.2 hf
        refine ⟨z, q1, q2, fun m z' hm hz => ?_⟩
        cases m with
        | zero => cases hz; rw [ev]; simpa using hv
        | succ m => exact q3 m z' (Nat.lt_of_succ_lt_succ hm) hz
theorem ms_index : MeS X.K cm W (rIndex X.K) mIndex := by
  intro S v vs w ws Q M r rs p
  cases vs with
  | nil => exact p.elim
  | cons y us =>
    cases us with
    | cons _ _ => exact p.elim
    | nil =>
      obtain ⟨x, rfl, rx⟩ := rels1 rs
      obtain ⟨us, q, xs, rfl, h1, h2, p⟩ := Post.itemsL (g := gIndex y) M r p
      unfold gIndex at p
      obtain ⟨⟨f1, f2⟩, p⟩ := Post.ite p
      cases hj : firstAt y us with
      | none => simp only [hj] at p; exact p.elim
      | some j =>
        simp only [hj] at p
        obtain ⟨z, q1, q2, q3⟩ := first_of rx f1 h2 f2 hj
        exact ⟨q, xs, x, j, z, rfl, rfl, h1, flat_of rx f1, flats_of h2 f2, q1, q2, q3, p.here M _ rfl⟩
/-! ### stores at places -/
def cSet : Val → Val → Val → Hv → R Val := fun o i v h => match i with
  | .int k => onCell (fun vs h => match ixv vs k with
    | some _ => .ok (.non, vs.set (if 0 ≤ k then k.toNat else (k + vs.length).toNat) v) h
    | none => .bad) o h
  | _ => .bad
/-- o[i] = e: e first -/
def gSub' (fo fi : SE) : SG := fun v sv h => (fo sv h).bind fun o h1 => (fi sv h1).bind fun i h2 => (cSet o i v h2).bind fun _ h3 => .ok sv h3
def lSet (k : Int) (v : Val) : List Val → Hv → R (Val × List Val) := fun vs h => match ixv vs k with
    | some _ => .ok (.non, vs.set (if 0 ≤ k then k.toNat else (k + vs.length).toNat) v) h
    | none => .bad
theorem set_cell {S : Sn} {o i v : Val} {wo wi wv : V} {P : Sn → Prop} (M : MR X.K cm S) (ro : VRel X.K S o wo) (ri : VRel X.K S i wi) (rv : VRel X.K S v wv) (p : Post X.K cm W S (cSet o i v S.h) fun _ S' => P S') : rSetL wo wi wv S.H fun H' => ∃ S', S'.H = H' ∧ Ext S S' ∧ MR X.K cm S' ∧ P S' := by
  cases i with
  | int k =>
    cases ri
    obtain ⟨j, q, us, xs, rfl, rfl, hm, hc, hH, ru, p⟩ := Post.cell (g := lSet k v) M ro p
    unfold lSet at p
    cases hy : ixv us k with
    | none => simp only [hy] at p; exact p.elim
    | some y =>
      simp only [hy] at p
      generalize hj : (if 0 ≤ k then k.toNat else (k + us.length).toNat) = n at p
      have hn : ixN xs.length k = some n := by
        rw [← ru.length]
        unfold ixv at hy
        unfold ixN
        by_cases h0 : 0 ≤ k
        · rw [if_pos h0] at hy hj ⊢
          have hl := (List.getElem?_eq_some_iff.mp hy).1
          rw [if_pos (by omega), hj]
        · rw [if_neg h0] at hy hj ⊢
          by_cases h1 : 0 ≤ k + us.length
          · rw [if_pos (by omega), hj]
          · rw [if_neg h1] at hy; cases hy
      have e := ext_put (o := .lst (xs.set n wv)) (c := .lst (us.set n v)) M hm hc (fun z => nomatch z)
      exact ⟨q, xs, k, n, rfl, rfl, hH, hn, _, rfl, e, mr_put M hm hc (fun z => nomatch z) ⟨_, upd_same, VRels.ext e _ (ru.set rv n)⟩, Post.put p M hm hc (ru.set rv n)⟩
  | _ => exact p.elim
theorem jg_sub {own : List Nat} {o i : Expr} {fo fi : SE} (ho : JE X cm W o fo) (hi : JE X cm W i fi)
    (ha : ∀ v, assign (.Subscript o i pos) X.env v = (do
      let ov ← holding [v] (eval o X.env)
      let iv ← holding [v, ov] (eval i X.env)
      standAt pos
      holding [v, ov, iv] (setItem ov iv v)
      release [v, ov, iv] []) := by intro _; rfl) : JG X cm W own (.Subscript o i pos) (gSub' fo fi) := PG.imp (pg_sub ho hi set_list ha) fun v σ H Q ⟨S, sv, u, e, M, r, ru, p⟩ => by
  subst e
  refine ⟨S, sv, rfl, M, r, Post.bind p fun ov S1 e1 M1 p1 wo ro => ?_⟩
  refine ⟨S1, sv, rfl, M1, r.ext e1, Post.bind p1 fun iv S2 e2 M2 p2 wi ri => ?_⟩
  have p3 : Post X.K cm W S2 (cSet ov iv u S2.h) fun _ S3 => ∀ σ', SRel X.K S3 sv σ' → wipe σ' own = wipe σ own → Q σ' S3.H := Post.bind p2 fun _ S3 e3 M3 q => q.here M3
  obtain ⟨q, xs, k, n, h1, h2, h3, h4, S3, h5, e3, M3, h6⟩ := set_cell M2 (VRel.ext e2 ov ro) ri (VRel.ext (e1.trans e2) u ru) p3
  refine ⟨q, xs, k, n, h1, h2, h3, h4, ?_⟩
  rw [← h5]
  exact h6 σ (r.ext (e1.trans (e2.trans e3))) rfl
/-! ### x op= e -/
theorem js_aug {i : Nat} {x : Str} {op : Operator} {ti : TIp} {g : Val → Val → Hv → R Val} {pos' : Pos} (hN : X.N.Nodup) (hi : X.N[i]? = some x) (hx : Loc X.env.scope x) (he : JE X cm W e fa) (ho : PIp X op ti) (hs : OpS X.K cm W ti g) (hf : X.fn x = true ∨ X.env.scope.names.lookup x = some .local := by first | exact .inl rfl | exact .inr rfl | assumption) :
    JS X cm W (.AugAssign (.Name x pos') op e pos) (sSet i (sBin g (sVar i) fa)) := PS.imp (ps_aug hN hi hx he ho hf) fun D σ H ⟨S, sv, e, M, r, p⟩ => by
  subst e
  unfold sSet sBin sVar at p
  cases q : sv[i]? with
  | none => simp only [q] at p; exact p.elim
  | some o =>
    cases o with
    | none => simp only [q] at p; exact p.elim
    | some v =>
      simp only [q, bind_ok] at p
      obtain ⟨w, h1, h2⟩ := r.2 i v q
      have p' : Post X.K cm W S ((fa sv S.h).bind fun u h2 => (g v u h2).bind fun y h3 => .ok (.nx (sv.set i (some y))) h3) (FlP X.K D) := by
        generalize fa sv S.h = z at p
        cases z <;> exact p
      refine ⟨w, h1, S, sv, rfl, M, r, Post.bind p' fun u S1 e1 M1 p1 x rx => ?_⟩
      exact hs S1 v u w x _ M1 (VRel.ext e1 v h2) rx (Post.bind p1 fun y S2 e2 M2 p2 z rz => p2.here M2 _ ((r.ext (e1.trans e2)).set rz i))
def rIAdd : R2 := fun x y H Q => rI0 (fun i j => .int (i + j)) x y H Q ∨ ∃ i j, x = .str i ∧ y = .str j ∧ i.length + j.length ≤ sizeLine ∧ Q (.str (i ++ j)) H
theorem pi_add : PIp X .Add rIAdd := iop_add.or iop_add_str
def gIAdd : Val → Val → Hv → R Val := fun v u h => match v, u with
  | .int a, .int b => .ok (.int (a + b)) h
  | .str a, .str b => if a.length + b.length ≤ 16777216 then .ok (.str (a ++ b)) h else .bad
  | _, _ => .bad
theorem os_iadd : OpS X.K cm W rIAdd gIAdd := by
  intro S v1 v2 w1 w2 Q M r1 r2 p
  cases v1 with
  | int a =>
    cases v2 with
    | int b => cases r1; cases r2; exact .inl ⟨a, b, rfl, rfl, p.here M _ rfl⟩
    | _ => exact p.elim
  | str a =>
    cases v2 with
    | str b =>
      obtain ⟨x, rfl, hx⟩ := r1
      obtain ⟨y, rfl, hy⟩ := r2
      obtain ⟨c, p⟩ := Post.ite p
      exact .inr ⟨x, y, rfl, rfl, by rw [str_len hx, str_len hy, sizeLine_eq]; exact c, p.here M _ ⟨_, rfl, str_app hx hy⟩⟩
    | _ => exact p.elim
  | _ => cases v2 <;> exact p.elim
end
end Sx
namespace Sx
open PySem PySem.Spec L2
open PyProof.Rows hiding St
/-! ### more walks, in texts, calls by name -/
section
variable {X : Cx} {cm : Nat → Addr} {W : XW} {pos : Pos} {a b c e o : Expr} {es : List Expr} {fa fb fc fo : SE} {fs : SA}
theorem PI.or {tg iter : Expr} {t t' : TI} (h : PI X tg iter t) (h' : PI X tg iter t') : PI X tg iter (fun σ H R => t σ H R ∨ t' σ H R) := ⟨fun pins s σ H R I q => q.elim (h.run pins s σ H R I) (h'.run pins s σ H R I)⟩
/-- over a list or a tuple -/
theorem ji_seq {tg : Expr} (ha : JE X cm W a fa) : JI X cm W tg a (iVal fa) := PI.imp (PI.or (ji_list ha) (ji_tup ha)) fun σ H Q ⟨S, sv, e, M, r, p⟩ => by
  subst e
  unfold iVal at p
  have key : (∀ h' vs, fa sv S.h ≠ .ok (.tup vs) h') ∨ (∃ h' vs, fa sv S.h = .ok (.tup vs) h') := by
    cases hz : fa sv S.h with
    | ok v h' =>
      cases v with
      | tup vs => exact .inr ⟨h', vs, rfl⟩
      | _ => exact .inl fun _ _ z => by cases z
    | _ => exact .inl fun _ _ z => by cases z
  rcases key with key | ⟨h', vs, key⟩
  · refine .inl ⟨S, sv, rfl, M, r, ?_⟩
    unfold iList'
    generalize fa sv S.h = z at p key
    cases z with
    | ok v h' =>
      cases v with
      | tup vs => exact (key h' vs rfl).elim
      | _ => exact p
    | _ => exact p
  · refine .inr ⟨S, sv, rfl, M, r, ?_⟩
    unfold iTup'
    rw [key] at p ⊢
    exact p
/-- a def as it is called by its name -/
structure Cal (P : Program) (w : World) (K : PySem.W.Frag) (mg : Str → Option Value) (base : Heap) (cm : Nat → Addr) (k : Nat) (x : Str) (n : Nat) (G : SF) : Prop where
  ex : ∃ (f : Addr) (fd : FuncData) (ps : List Str), ps.length = n ∧ FnS P w K mg base cm k f fd ps G ∧ mg x = some (.ref f) ∧ PySem.W.keepIn K (.ref f) = true ∧ Binds K fd ps []
def callF (n : Nat) (G : SF) : SF := fun us h => if us.length = n then noX (G us h) else .bad
theorem je_fn {k j n : Nat} {x : Str} {G : SF} {p : Pos} (C : Cal X.prog X.w X.K X.mg X.base cm j x n G) (hr : Room k X.A) (hj : j ≤ k) (hg : Gl X x) (ha : JA X cm W (e :: es) fs) (hdb : (x == ("__debug__" : Str)) = false := by decide)
    (he : starEach (e :: es) X.env = (false, eval e X.env) :: starEach es X.env := by rfl) (hpl : (backTo pos (starEach es X.env)).any (·.1) = false := by rfl) : JE X cm W (.Call (.Name x p) (e :: es) [] pos) (sCall (callF n G) fs) := by
  obtain ⟨f, fd, ps, hn, F, hm, hk, hb⟩ := C.ex
  subst hn
  exact je_call F (hr.mono hj) hg hm hk hb ha hdb he hpl
theorem Cal.le {P : Program} {w : World} {K : PySem.W.Frag} {mg : Str → Option Value} {base : Heap} {k n : Nat} {x : Str} {F G : SF} (h : Cal P w K mg base cm k x n F) (e : ∀ us h, G us h = .bad ∨ F us h = G us h) : Cal P w K mg base cm k x n G := by
  obtain ⟨f, fd, ps, hn, F, hm, hk, hb⟩ := h.ex
  exact ⟨f, fd, ps, hn, fn_le F e, hm, hk, hb⟩
theorem Cal.trunc {P : Program} {w : World} {K : PySem.W.Frag} {mg : Str → Option Value} {base : Heap} {k n : Nat} {x : Str} {F : SF} (h : Cal P w K mg base cm k x n F) : Cal P w K mg base cm k x n (trunc F) := by
  obtain ⟨f, fd, ps, hn, F, hm, hk, hb⟩ := h.ex
  exact ⟨f, fd, ps, hn, fn_trunc F, hm, hk, hb⟩
theorem cal_mk {P : Program} {w : World} {K : PySem.W.Frag} {mg : Str → Option Value} {base : Heap} {k : Nat} {x : Str} {st : Stmt} {f : Addr} {fd : FuncData} {ps : List Str} {G : SF} (F : Fun K x x st f fd) (hm : mg x = some (.ref f)) (hb : Binds K fd ps []) (h : FnS P w K mg base cm k f fd ps G) : Cal P w K mg base cm k x ps.length G :=
  ⟨f, fd, ps, rfl, h, hm, F.kp, hb⟩
/-- a constant of the top -/
structure KConst (K : PySem.W.Frag) (mg : Str → Option Value) (x : Str) (v : Val) : Prop where
  ex : ∃ (u : Value) (w : V), mg x = some u ∧ RelV w u ∧ ∀ S, VRel K S v w
theorem KConst.je {x : Str} {v : Val} {p : Pos} (C : KConst X.K X.mg x v) (hg : Gl X x) (hd : (x == ("__debug__" : Str)) = false := by decide) : JE X cm W (.Name x p) (sC v) := by
  obtain ⟨u, w, hm, r, hv⟩ := C.ex
  exact je_glob hg hm r hv hd
theorem kconst_int {K : PySem.W.Frag} {mg : Str → Option Value} {x : Str} {i : Int} {t : Tok} (hm : mg x = some (.int i t)) : KConst K mg x (.int i) := ⟨_, .int i, hm, ⟨t, rfl⟩, fun _ => rfl⟩
/-- a tuple of flat things of the top -/
inductive Flats : List Val → List Value → Prop
  | nil : Flats [] []
  | int {i : Int} {t : Tok} {vs : List Val} {us : List Value} (r : Flats vs us) : Flats (.int i :: vs) (.int i t :: us)
  | str {x : List Nat} {y : Str} {t : Tok} {vs : List Val} {us : List Value} (h : y.cps.toList = x) (r : Flats vs us) : Flats (.str x :: vs) (.str y t :: us)
theorem Flats.rel {K : PySem.W.Frag} {vs : List Val} {us : List Value} (h : Flats vs us) : ∃ ws, Vals ws us ∧ ∀ S, VRels K S vs ws := by
  induction h with
  | nil => exact ⟨[], .nil, fun _ => VRels.nil⟩
  | @int i t vs us r ih =>
    obtain ⟨ws, h1, h2⟩ := ih
    exact ⟨V.int i :: ws, .cons (show RelV (V.int i) (.int i t) from ⟨t, rfl⟩) h1, fun S => VRels.cons (v := .int i) (w := V.int i) rfl (h2 S)⟩
  | @str x y t vs us h r ih =>
    obtain ⟨ws, h1, h2⟩ := ih
    exact ⟨V.str y :: ws, .cons (show RelV (V.str y) (.str y t) from ⟨t, rfl⟩) h1, fun S => VRels.cons (v := .str x) (w := V.str y) ⟨y, rfl, h⟩ (h2 S)⟩
theorem kconst_tup {K : PySem.W.Frag} {mg : Str → Option Value} {x : Str} {a : Addr} {o : Obj} {vs : List Val} {us : List Value} {n : Nat} (hm : mg x = some (.ref a)) (hk : K.lookup a = some o) (hc : o.cls = .type "tuple") (hd : o.data = .seq us.toArray n) (hs : us.length ≤ sizeLine) (h : Flats vs us) : KConst K mg x (.tup vs) := by
  obtain ⟨ws, h1, h2⟩ := h.rel (K := K)
  exact ⟨_, .ref a, hm, rfl, fun S => ⟨a, ws, rfl, .inr ⟨o, _, n, hk, hc, hd, by simpa using hs, by simpa using h1⟩, h2 S⟩⟩
/-- of nothing: a def whose semantics says nothing -/
theorem cal_bad {P : Program} {w : World} {K : PySem.W.Frag} {mg : Str → Option Value} {base : Heap} {k : Nat} {x : Str} {f : Addr} {fd : FuncData} {ps : List Str} (hm : mg x = some (.ref f)) (hk : PySem.W.keepIn K (.ref f) = true) (hb : Binds K fd ps []) : Cal P w K mg base cm k x ps.length (fun _ _ => .bad) :=
  ⟨f, fd, ps, rfl, ⟨fun vs H Q E h => h.1, fun A outer s H args us vs Q E _ _ _ _ h => by obtain ⟨_, S, us, _, _, _, p⟩ := h; exact p.elim⟩, hm, hk, hb⟩
end
end Sx

set_option Elab.async false
set_option linter.all false
set_option maxRecDepth 100000
set_option maxHeartbeats 2000000
/-! SxText: signs in texts, methods of texts, texts of the top. -/
namespace Sx
open PySem PySem.Spec L2
open PyProof.Rows hiding St
section
variable {X : Cx} {cm : Nat → Addr} {W : XW} {pos : Pos} {a b c e o : Expr} {es : List Expr} {fa fb fc fo : SE} {fs : SA}
/-- x in y: a sign in a text, a flat thing in a row -/
def gInX (neg : Bool) : Val → Val → Hv → R Val := fun x y h => match y with
  | .str z => (match x with
    | .str (c :: []) => .ok (.bl (if neg then !decide (c ∈ z) else decide (c ∈ z))) h
    | _ => .bad)
  | y => gInB neg x y h
def gInT := gInX false
def gNotInT := gInX true
theorem gInX_seq {neg : Bool} {x y : Val} {h : Hv} (hy : ∀ z, y ≠ .str z) : gInX neg x y h = gInB neg x y h := by
  cases y with
  | str z => exact absurd rfl (hy z)
  | _ => rfl
theorem os_inX (neg : Bool) {r : R2} (hr : ∀ (k : Nat) (z : Str) (H : Hp) (Q : VK), Q (.bl (if neg then !decide (k ∈ z.cps.toList) else decide (k ∈ z.cps.toList))) H → r (.str ⟨#[k]⟩) (.str z) H Q) : OpS X.K cm W (fun x y H Q => r x y H Q ∨ rIn X.K neg x y H Q) (gInX neg) := by
  intro S v1 v2 w1 w2 Q M r1 r2 p
  cases v2 with
  | str z =>
    cases v1 with
    | str x =>
      cases x with
      | nil => exact p.elim
      | cons k t =>
        cases t with
        | cons _ _ => exact p.elim
        | nil =>
          obtain ⟨y1, rfl, e1⟩ := r1
          obtain ⟨y2, rfl, e2⟩ := r2
          refine .inl ?_
          have e3 : y1 = ⟨#[k]⟩ := ofL_of e1
          subst e3
          refine hr k y2 S.H Q ?_
          exact Post.bl (K := X.K) (cm := cm) (W := W) (S := S) (b := if neg then !decide (k ∈ z) else decide (k ∈ z)) p M (by rw [e2])
    | _ => exact p.elim
  | _ => exact .inr (os_in neg S v1 _ w1 w2 Q M r1 r2 (by rw [gInX_seq (fun z e => by cases e)] at p; exact p))
theorem op_inT : OpR X (compareOp .In) (fun x y H Q => rInS x y H Q ∨ rIn X.K false x y H Q) := op_inS.or op_in_seq
theorem op_notInT : OpR X (compareOp .NotIn) (fun x y H Q => rNotInS x y H Q ∨ rIn X.K true x y H Q) := op_notInS.or op_notIn_seq
theorem os_inT : OpS X.K cm W (fun x y H Q => rInS x y H Q ∨ rIn X.K false x y H Q) gInT := os_inX false fun k z H Q q => ⟨k, z, rfl, rfl, q⟩
theorem os_notInT : OpS X.K cm W (fun x y H Q => rNotInS x y H Q ∨ rIn X.K true x y H Q) gNotInT := os_inX true fun k z H Q q => ⟨k, z, rfl, rfl, q⟩
/-! methods of texts -/
def Val.isS : Val → Bool
  | .str _ => true
  | _ => false
def sSM0 (g : Val → List Val → Hv → R Val) (o : SE) : SE := fun sv h => (o sv h).bind fun v h1 => if v.isS = true then g v [] h1 else .bad
def sSM1 (g : Val → List Val → Hv → R Val) (o : SE) (a : SE) : SE := fun sv h => (o sv h).bind fun v h1 => if v.isS = true then (a sv h1).bind fun u h2 => g v [u] h2 else .bad
theorem isS_of {K : PySem.W.Frag} {S : Sn} {v : Val} {w : V} (r : VRel K S v w) (h : v.isS = true) : ∃ a, w = .str a := by
  cases v with
  | str x => obtain ⟨y, rfl, _⟩ := r; exact ⟨y, rfl⟩
  | _ => cases h
theorem je_sm0 {id : String} {name : Str} {apos : Pos} {r : V → List V → Hp → VK → Prop} {g : Val → List Val → Hv → R Val} (slot : Slot "str" name id) (ty : typeOf (.builtin id) = pure (.type "method_descriptor")) (rule : MtR X id r) (hs : MeS X.K cm W r g) (ho : JE X cm W o fo)
    (hbase : attributeBase o name X.env (eval o X.env) = eval o X.env := by rfl) (hline : (apos.endLine == pos.line) = true := by rfl) : JE X cm W (.Call (.Attribute o name apos) [] [] pos) (sSM0 g fo) :=
  PE.imp (pe_m0 slot ty rule ho hbase hline) fun σ H Q ⟨S, sv, e, M, r, p⟩ => by
    subst e
    refine ⟨S, sv, rfl, M, r, Post.bind p fun v S1 e1 M1 p1 w r1 => ?_⟩
    obtain ⟨hl, p1⟩ := Post.ite p1
    exact ⟨isS_of r1 hl, hs S1 v [] w [] Q M1 r1 VRels.nil p1⟩
theorem je_sm1 {id : String} {name : Str} {apos : Pos} {r : V → List V → Hp → VK → Prop} {g : Val → List Val → Hv → R Val} (slot : Slot "str" name id) (ty : typeOf (.builtin id) = pure (.type "method_descriptor")) (rule : MtR X id r) (hs : MeS X.K cm W r g) (ho : JE X cm W o fo) (ha : JE X cm W a fa)
    (hst : starEach [a] X.env = [(false, eval a X.env)] := by rfl) (hbase : attributeBase o name X.env (eval o X.env) = eval o X.env := by rfl) (hline : (apos.endLine == pos.line) = true := by rfl) : JE X cm W (.Call (.Attribute o name apos) [a] [] pos) (sSM1 g fo fa) :=
  PE.imp (pe_m1 slot ty rule ho ha hst hbase hline) fun σ H Q ⟨S, sv, e, M, r, p⟩ => by
    subst e
    refine ⟨S, sv, rfl, M, r, Post.bind p fun v S1 e1 M1 p1 w r1 => ?_⟩
    obtain ⟨hl, p1⟩ := Post.ite p1
    refine ⟨isS_of r1 hl, S1, sv, rfl, M1, r.ext e1, Post.bind p1 fun u S2 e2 M2 p2 y r2 => ?_⟩
    exact hs S2 v [u] w [y] Q M2 (VRel.ext e2 v r1) (VRels.cons r2 VRels.nil) p2
def stripF (x y : List Nat) : List Nat := (Txt.stripChars (Str.ofL x) (Str.ofL y)).cps.toList
def mStrip : Val → List Val → Hv → R Val := fun v us h => match v, us with
  | .str x, .str y :: [] => if x.length ≤ 16777216 then .ok (.str (stripF x y)) h else .bad
  | _, _ => .bad
theorem len_ofL (x : List Nat) : (Str.ofL x).length = x.length := by
  show (Str.ofL x).cps.size = _
  rw [← ofL_toList x, Array.length_toList, ofL_toList]
theorem ms_strip : MeS X.K cm W (fun x xs H Q => ∃ a b, x = .str a ∧ xs = [.str b] ∧ a.length ≤ sizeLine ∧ Q (.str (Txt.stripChars a b)) H) mStrip := by
  intro S v vs w ws Q M r rs p
  unfold mStrip at p
  split at p
  · obtain ⟨y1, rfl, e1⟩ := r
    obtain ⟨w2, rfl, y2, rfl, e2⟩ := rels1 rs
    obtain ⟨hl, p⟩ := Post.ite p
    have q1 := ofL_of e1
    have q2 := ofL_of e2
    subst q1 q2
    exact ⟨_, _, rfl, rfl, by rw [len_ofL, sizeLine_eq]; exact hl, p.here M _ ⟨_, rfl, rfl⟩⟩
  · exact p.elim
def mUpper : Val → List Val → Hv → R Val := fun v us h => match v, us with
  | .str x, [] => if x.all (fun c => decide (c < 128)) = true ∧ x.length ≤ 5592405 then .ok (.str (x.map PyProof.Rows.up1)) h else .bad
  | _, _ => .bad
theorem ms_upper : MeS X.K cm W (fun x xs H Q => ∃ a, x = .str a ∧ xs = [] ∧ a.length ≤ 5592405 ∧ Q (.str (Txt.upper a)) H) mUpper := by
  intro S v vs w ws Q M r rs p
  unfold mUpper at p
  split at p
  · obtain ⟨y1, rfl, e1⟩ := r
    cases rs
    obtain ⟨hl, p⟩ := Post.ite p
    have q1 := ofL_of e1
    subst q1
    refine ⟨_, rfl, rfl, by rw [len_ofL]; exact hl.2, p.here M _ ⟨_, rfl, ?_⟩⟩
    exact congrArg (fun s : Str => s.cps.toList) (SX.upper_S hl.1)
  · exact p.elim
def mSplit : Val → List Val → Hv → R Val := fun v us h => match v, us with
  | .str x, .str y :: [] => if y ≠ [] ∧ y.all (fun c => decide (c < 256)) = true ∧ x.length + 2 ≤ 16777216 then .ok (.fl ((TL.spl y 0 [] x).map Val.str)) h else .bad
  | _, _ => .bad
theorem rels_strs {K : PySem.W.Frag} {S : Sn} : ∀ ys : List (List Nat), VRels K S (ys.map Val.str) ((ys.map Str.ofL).map V.str)
  | [] => rfl
  | y :: ys => ⟨_, _, rfl, ⟨_, rfl, rfl⟩, rels_strs ys⟩
theorem ms_split : MeS X.K cm W (fun x xs H Q => ∃ a b, x = .str a ∧ xs = [.str b] ∧ (b.length == 0) = false ∧ a.length + 2 ≤ sizeLine ∧ rNewStrs (Txt.split a b) H Q) mSplit := by
  intro S v vs w ws Q M r rs p
  unfold mSplit at p
  split at p
  · rename_i x y
    obtain ⟨y1, rfl, e1⟩ := r
    obtain ⟨w2, rfl, y2, rfl, e2⟩ := rels1 rs
    obtain ⟨hl, p⟩ := Post.ite p
    have q1 := ofL_of e1
    have q2 := ofL_of e2
    subst q1 q2
    refine ⟨_, _, rfl, rfl, ?_, by rw [len_ofL, sizeLine_eq]; exact hl.2.2, fun q hq => ?_⟩
    · rw [len_ofL]
      exact beq_eq_false_iff_ne.mpr fun z => hl.1 (List.length_eq_zero_iff.mp z)
    · have e : Txt.split (Str.ofL x) (Str.ofL y) = (TL.spl y 0 [] x).map Str.ofL := SX.split_S hl.1 hl.2.1
      rw [e]
      exact p.laid M hq _ _ (vrel_fl M hq (rels_strs _))
  · exact p.elim
/-- a text of the top -/
theorem kconst_str {K : PySem.W.Frag} {mg : Str → Option Value} {x : Str} {y : Str} {z : List Nat} {t : Tok} (hm : mg x = some (.str y t)) (h : y.cps.toList = z) : KConst K mg x (.str z) := ⟨_, .str y, hm, ⟨t, rfl⟩, fun _ => ⟨y, rfl, h⟩⟩
end
end Sx

set_option Elab.async false
set_option linter.all false
set_option maxRecDepth 100000
/-! SxSimp: the semantics step by step, for simp; what holds of a result. -/
namespace Sx
section
variable {α β : Type} {sv : Env} {h : Hv} {a b c : SE} {t u : ST} {f g : SS} {fs : SA} {v : Val}
theorem bind_congr {r : R α} {k l : α → Hv → R β} (e : ∀ a h, k a h = l a h) : r.bind k = r.bind l := by cases r <;> first | rfl | exact e _ _
@[simp] theorem bind_ite {c : Prop} [Decidable c] {r s : R α} {k : α → Hv → R β} : (if c then r else s).bind k = if c then r.bind k else s.bind k := by split <;> rfl
@[simp] theorem bind_assoc {γ : Type} {r : R α} {k : α → Hv → R β} {l : β → Hv → R γ} : (r.bind k).bind l = r.bind fun a h => (k a h).bind l := by cases r <;> rfl
@[simp] theorem sC_app : sC v sv h = .ok v h := rfl
def getV : Option (Option Val) → Hv → R Val
  | some (some v), h => .ok v h
  | _, _ => .bad
@[simp] theorem getV_some : getV (some (some v)) h = .ok v h := rfl
@[simp] theorem getV_none : getV (some none) h = .bad := rfl
@[simp] theorem sVar_app {i : Nat} : sVar i sv h = getV sv[i]? h := by unfold sVar getV; split <;> simp_all
@[simp] theorem sBin_app {k : Val → Val → Hv → R Val} : sBin k a b sv h = (a sv h).bind fun x h1 => (b sv h1).bind fun y h2 => k x y h2 := rfl
@[simp] theorem sUn_app {k : Val → Hv → R Val} : sUn k a sv h = (a sv h).bind k := rfl
@[simp] theorem sNil_app : sNil sv h = .ok [] h := rfl
@[simp] theorem sCons_app : sCons a fs sv h = (a sv h).bind fun x h1 => (fs sv h1).bind fun xs h2 => .ok (x :: xs) h2 := rfl
@[simp] theorem sCall_app {G : SF} : sCall G fs sv h = (fs sv h).bind G := rfl
def tupK (vs : List Val) (h : Hv) : R Val := if vs.length ≤ 16777216 then .ok (.tup vs) h else .bad
def lstK (vs : List Val) (h : Hv) : R Val := if vs.length ≤ 16777216 then .ok (.fl vs) h else .bad
def lstNK (vs : List Val) (h : Hv) : R Val := if vs.length ≤ 16777216 then .ok (.ref h.length) (h ++ [.lst vs]) else .bad
@[simp] theorem sTup_app : sTup fs sv h = (fs sv h).bind tupK := rfl
@[simp] theorem sLst_app : sLst fs sv h = (fs sv h).bind lstK := rfl
@[simp] theorem sLstN_app : sLstN fs sv h = (fs sv h).bind lstNK := rfl
@[simp] theorem sIf_app : sIf t a b sv h = (t sv h).bind fun k h1 => if k = true then a sv h1 else b sv h1 := rfl
def blK : Val → Hv → R Bool
  | .bl b, h => .ok b h
  | _, _ => .bad
@[simp] theorem blK_bl {b : Bool} : blK (.bl b) h = .ok b h := rfl
@[simp] theorem sTest_app : sTest a sv h = (a sv h).bind blK := by
  exact bind_congr fun v h1 => by cases v <;> first | rfl | (rename_i k; cases k <;> rfl)
def truK (v : Val) (h : Hv) : R Bool := match truB v h with
  | some b => .ok b h
  | none => .bad
@[simp] theorem sTru_app : sTru a sv h = (a sv h).bind truK := rfl
@[simp] theorem truK_bl {b : Bool} : truK (.bl b) h = .ok b h := rfl
@[simp] theorem truK_non : truK .non h = .ok false h := rfl
@[simp] theorem truK_int {i : Int} : truK (.int i) h = .ok (!decide (i = 0)) h := rfl
@[simp] theorem truK_fl {vs : List Val} : truK (.fl vs) h = .ok (!vs.isEmpty) h := rfl
@[simp] theorem truK_tup {vs : List Val} : truK (.tup vs) h = .ok (!vs.isEmpty) h := rfl
@[simp] theorem tAnd_app : tAnd' t u sv h = (t sv h).bind fun k h1 => if k = true then u sv h1 else .ok false h1 := rfl
@[simp] theorem tOr_app : tOr' t u sv h = (t sv h).bind fun k h1 => if k = true then .ok true h1 else u sv h1 := rfl
@[simp] theorem tNot_app : tNot' t sv h = (t sv h).bind fun k h1 => .ok (!k) h1 := rfl
@[simp] theorem tTrue_app : tTrue sv h = .ok true h := rfl
def andK (b : SE) (sv : Env) : Val → Hv → R Val
  | .bl true, h => b sv h
  | .bl false, h => .ok (.bl false) h
  | _, _ => .bad
def orK (b : SE) (sv : Env) : Val → Hv → R Val
  | .bl true, h => .ok (.bl true) h
  | .bl false, h => b sv h
  | _, _ => .bad
@[simp] theorem andK_bl {k : Bool} : andK b sv (.bl k) h = if k = true then b sv h else .ok (.bl false) h := by cases k <;> rfl
@[simp] theorem orK_bl {k : Bool} : orK b sv (.bl k) h = if k = true then .ok (.bl true) h else b sv h := by cases k <;> rfl
@[simp] theorem sAnd_app : sAnd a b sv h = (a sv h).bind (andK b sv) := by
  exact bind_congr fun v h1 => by cases v <;> first | rfl | (rename_i k; cases k <;> rfl)
@[simp] theorem sOr_app : sOr a b sv h = (a sv h).bind (orK b sv) := by
  exact bind_congr fun v h1 => by cases v <;> first | rfl | (rename_i k; cases k <;> rfl)
def notK : Val → Hv → R Val
  | .bl b, h => .ok (.bl (!b)) h
  | _, _ => .bad
@[simp] theorem notK_bl {k : Bool} : notK (.bl k) h = .ok (.bl (!k)) h := rfl
@[simp] theorem sNotV_app : sNotV a sv h = (a sv h).bind notK := by
  exact bind_congr fun v h1 => by cases v <;> first | rfl | (rename_i k; cases k <;> rfl)
def chK (g' : Val → Val → Hv → R Val) (c : SE) (sv : Env) (y : Val) : Val → Hv → R Val
  | .bl true, h => (c sv h).bind fun w h4 => g' y w h4
  | .bl false, h => .ok (.bl false) h
  | _, _ => .bad
@[simp] theorem chK_bl {g' : Val → Val → Hv → R Val} {y : Val} {k : Bool} : chK g' c sv y (.bl k) h = if k = true then (c sv h).bind fun w h4 => g' y w h4 else .ok (.bl false) h := by cases k <;> rfl
@[simp] theorem sChain_app {k k' : Val → Val → Hv → R Val} : sChain k k' a b c sv h = (a sv h).bind fun x h1 => (b sv h1).bind fun y h2 => (k x y h2).bind (chK k' c sv y) := by
  exact bind_congr fun x h1 => bind_congr fun y h2 => bind_congr fun v h3 => by cases v <;> first | rfl | (rename_i k; cases k <;> rfl)
@[simp] theorem sSkip_app : sSkip sv h = .ok (.nx sv) h := rfl
def seqK (g : SS) : Fl → Hv → R Fl
  | .nx s, h => g s h
  | f, h => .ok f h
@[simp] theorem seqK_nx {s : Env} : seqK g (.nx s) h = g s h := rfl
@[simp] theorem seqK_rt : seqK g (.rt v) h = .ok (.rt v) h := rfl
@[simp] theorem seqK_bk {s : Env} : seqK g (.bk s) h = .ok (.bk s) h := rfl
@[simp] theorem seqK_ct {s : Env} : seqK g (.ct s) h = .ok (.ct s) h := rfl
@[simp] theorem sSeq_app : sSeq f g sv h = (f sv h).bind (seqK g) := by
  exact bind_congr fun v h1 => by cases v <;> first | rfl | (rename_i k; cases k <;> rfl)
@[simp] theorem sSet_app {i : Nat} : sSet i a sv h = (a sv h).bind fun v h1 => .ok (.nx (sv.set i (some v))) h1 := rfl
@[simp] theorem sRet_app : sRet a sv h = (a sv h).bind fun v h1 => .ok (.rt v) h1 := rfl
@[simp] theorem sRetN_app : sRetN sv h = .ok (.rt .non) h := rfl
@[simp] theorem sExpr_app : sExpr a sv h = (a sv h).bind fun _ h1 => .ok (.nx sv) h1 := rfl
@[simp] theorem sIte_app : sIte t f g sv h = (t sv h).bind fun k h1 => if k = true then f sv h1 else g sv h1 := rfl
@[simp] theorem sBrk_app : sBrk sv h = .ok (.bk sv) h := rfl
@[simp] theorem sCnt_app : sCnt sv h = .ok (.ct sv) h := rfl
@[simp] theorem sAsg_app {gg : SG} : sAsg a gg sv h = (a sv h).bind fun v h1 => (gg v sv h1).bind fun s h2 => .ok (.nx s) h2 := rfl
@[simp] theorem sFrz_app : sFrz a sv h = (a sv h).bind frz := rfl
@[simp] theorem sFrzV_app {i : Nat} : sFrzV i sv h = (sVar i sv h).bind fun v h1 => (frz v h1).bind fun u h2 => .ok (.nx (sv.set i (some u))) h2 := rfl
@[simp] theorem sFor_app {it : SI} {gg : SG} : sFor it gg f sv h = (it sv h).bind fun xs h1 => sForL gg f xs sv h1 := rfl
@[simp] theorem gNm_app {i : Nat} : gNm i v sv h = .ok (sv.set i (some v)) h := rfl
def itK : Val → Hv → R (List Val)
  | .tup vs, h => .ok vs h
  | .fl vs, h => .ok vs h
  | .kl vs, h => .ok vs h
  | _, _ => .bad
@[simp] theorem itK_tup {vs : List Val} : itK (.tup vs) h = .ok vs h := rfl
@[simp] theorem itK_fl {vs : List Val} : itK (.fl vs) h = .ok vs h := rfl
@[simp] theorem itK_kl {vs : List Val} : itK (.kl vs) h = .ok vs h := rfl
@[simp] theorem iVal_app : iVal a sv h = (a sv h).bind itK := by
  exact bind_congr fun v h1 => by cases v <;> first | rfl | (rename_i k; cases k <;> rfl)
def rg1K : Val → Hv → R (List Val)
  | .int j, h => if -4611686018427387904 ≤ j ∧ j < 4611686018427387904 then .ok (rangeV 0 j.toNat) h else .bad
  | _, _ => .bad
@[simp] theorem rg1K_int {j : Int} : rg1K (.int j) h = if -4611686018427387904 ≤ j ∧ j < 4611686018427387904 then .ok (rangeV 0 j.toNat) h else .bad := rfl
@[simp] theorem iRange1_app : iRange1 a sv h = (a sv h).bind rg1K := by
  exact bind_congr fun v h1 => by cases v <;> first | rfl | (rename_i k; cases k <;> rfl)
theorem rg1K_of {n : Nat} (hn : n < 4611686018427387904) : rg1K (.int n) h = .ok (rangeV 0 n) h := by
  rw [rg1K_int, if_pos ⟨by omega, by omega⟩, Int.toNat_natCast]
def rg2K : Val → Val → Hv → R (List Val)
  | .int i, .int j, h => if (-4611686018427387904 ≤ i ∧ i < 4611686018427387904) ∧ -4611686018427387904 ≤ j ∧ j < 4611686018427387904 then .ok (rangeV i (j - i).toNat) h else .bad
  | _, _, _ => .bad
@[simp] theorem rg2K_int {i j : Int} : rg2K (.int i) (.int j) h = if (-4611686018427387904 ≤ i ∧ i < 4611686018427387904) ∧ -4611686018427387904 ≤ j ∧ j < 4611686018427387904 then .ok (rangeV i (j - i).toNat) h else .bad := rfl
@[simp] theorem iRange2_app : iRange2 a b sv h = (a sv h).bind fun v h1 => (b sv h1).bind (rg2K v) := by
  exact bind_congr fun v h1 => bind_congr fun u h2 => by cases v <;> first | rfl | (cases u <;> rfl)
@[simp] theorem sLc_app {own : List Nat} {it : SI} {gg : SG} : sLc own it gg t a sv h = (it sv h).bind fun xs h1 => noX ((sLcL gg t a (wipeE sv own) 0 xs h1).bind fun ys h2 => .ok (.fl ys) h2) := rfl
@[simp] theorem noX_ok {x : α} : noX (.ok x h) = .ok x h := rfl
@[simp] theorem noX_bad : noX (.bad : R α) = .bad := rfl
@[simp] theorem noX_ite {c : Prop} [Decidable c] {r s : R α} : noX (if c then r else s) = if c then noX r else noX s := by split <;> rfl
theorem callF_eq {n : Nat} {G : SF} {us : List Val} (hl : us.length = n) : callF n G us h = noX (G us h) := by unfold callF; rw [if_pos hl]
theorem callF_ok {n : Nat} {G : SF} {us : List Val} {h' : Hv} (hl : us.length = n) (e : G us h = .ok v h') : callF n G us h = .ok v h' := by rw [callF_eq hl, e]; rfl
@[simp] theorem callF_1 {G : SF} {x : Val} : callF 1 G [x] h = noX (G [x] h) := rfl
@[simp] theorem callF_2 {G : SF} {x y : Val} : callF 2 G [x, y] h = noX (G [x, y] h) := rfl
@[simp] theorem callF_3 {G : SF} {x y z : Val} : callF 3 G [x, y, z] h = noX (G [x, y, z] h) := rfl
@[simp] theorem callF_4 {G : SF} {x y z w : Val} : callF 4 G [x, y, z, w] h = noX (G [x, y, z, w] h) := rfl
@[simp] theorem callF_5 {G : SF} {x y z w o : Val} : callF 5 G [x, y, z, w, o] h = noX (G [x, y, z, w, o] h) := rfl
/-- a def's end -/
def fin : R Fl → R Val
  | .ok (.rt v) h1 => .ok v h1
  | .ok (.nx _) h1 => .ok .non h1
  | .ok _ _ => .bad
  | .exc c v h1 => .exc c v h1
  | .bad => .bad
@[simp] theorem fin_rt : fin (.ok (.rt v) h) = .ok v h := rfl
@[simp] theorem fin_nx {s : Env} : fin (.ok (.nx s) h) = .ok .non h := rfl
@[simp] theorem fin_bad : fin .bad = .bad := rfl
@[simp] theorem fin_ite {c : Prop} [Decidable c] {r s : R Fl} : fin (if c then r else s) = if c then fin r else fin s := by split <;> rfl
theorem sFn_app {n k : Nat} {us : List Val} (hl : us.length = n) : sFn n k f us h = fin (f (us.map some ++ List.replicate (k - n) none) h) := by
  unfold sFn
  rw [if_pos hl]
  generalize f (us.map some ++ List.replicate (k - n) none) h = z
  cases z with
  | ok fl h1 => cases fl <;> rfl
  | _ => rfl
@[simp] theorem sFn_1 {k : Nat} {x : Val} : sFn 1 k f [x] h = fin (f (some x :: List.replicate (k - 1) none) h) := sFn_app rfl
@[simp] theorem sFn_2 {k : Nat} {x y : Val} : sFn 2 k f [x, y] h = fin (f (some x :: some y :: List.replicate (k - 2) none) h) := sFn_app rfl
@[simp] theorem sFn_3 {k : Nat} {x y z : Val} : sFn 3 k f [x, y, z] h = fin (f (some x :: some y :: some z :: List.replicate (k - 3) none) h) := sFn_app rfl
@[simp] theorem sFn_4 {k : Nat} {x y z u : Val} : sFn 4 k f [x, y, z, u] h = fin (f (some x :: some y :: some z :: some u :: List.replicate (k - 4) none) h) := sFn_app rfl
@[simp] theorem sFn_5 {k : Nat} {x y z u o : Val} : sFn 5 k f [x, y, z, u, o] h = fin (f (some x :: some y :: some z :: some u :: some o :: List.replicate (k - 5) none) h) := sFn_app rfl
/-! operators -/
@[simp] theorem gEq_int {i j : Int} : gEq (.int i) (.int j) h = .ok (.bl (decide (i = j))) h := rfl
@[simp] theorem gEq_str {i j : List Nat} : gEq (.str i) (.str j) h = .ok (.bl (decide (i = j))) h := rfl
@[simp] theorem gEq_bl {i j : Bool} : gEq (.bl i) (.bl j) h = .ok (.bl (decide (i = j))) h := rfl
@[simp] theorem gNe_int {i j : Int} : gNe (.int i) (.int j) h = .ok (.bl (!decide (i = j))) h := rfl
@[simp] theorem gNe_str {i j : List Nat} : gNe (.str i) (.str j) h = .ok (.bl (!decide (i = j))) h := rfl
@[simp] theorem gNe_bl {i j : Bool} : gNe (.bl i) (.bl j) h = .ok (.bl (!decide (i = j))) h := rfl
@[simp] theorem gAdd_int {i j : Int} : gAdd (.int i) (.int j) h = .ok (.int (i + j)) h := rfl
@[simp] theorem gIAdd_int {i j : Int} : gIAdd (.int i) (.int j) h = .ok (.int (i + j)) h := rfl
@[simp] theorem gSub_int {i j : Int} : gSub (.int i) (.int j) h = .ok (.int (i - j)) h := rfl
@[simp] theorem gMul_int {i j : Int} : gMul (.int i) (.int j) h = if (-18446744073709551616 < j ∧ j < 18446744073709551616) ∨ (-18446744073709551616 < i ∧ i < 18446744073709551616) then .ok (.int (i * j)) h else .bad := rfl
@[simp] theorem gMod_int {i j : Int} : gMod (.int i) (.int j) h = if 0 < j then .ok (.int (i % j)) h else .bad := rfl
@[simp] theorem gDiv_int {i j : Int} : gDiv (.int i) (.int j) h = if 0 < j ∧ j < 1000000000000 then .ok (.int (i / j)) h else .bad := rfl
@[simp] theorem gShl_int {i j : Int} : gShl (.int i) (.int j) h = if 0 ≤ j ∧ j ≤ 1000000 ∧ i.natAbs < 18446744073709551616 then .ok (.int (i * 2 ^ j.toNat)) h else .bad := rfl
@[simp] theorem gShr_int {i j : Int} : gShr (.int i) (.int j) h = if 0 ≤ j then .ok (.int (i / 2 ^ j.toNat)) h else .bad := rfl
@[simp] theorem gAnd_int {i j : Int} : gAnd (.int i) (.int j) h = .ok (.int (PySem.Builtin.bitAnd i j)) h := rfl
@[simp] theorem gOr_int {i j : Int} : gOr (.int i) (.int j) h = .ok (.int (PySem.Builtin.bitOr i j)) h := rfl
@[simp] theorem gXor_int {i j : Int} : gXor (.int i) (.int j) h = .ok (.int (PySem.Builtin.bitXor i j)) h := rfl
@[simp] theorem gLt_int {i j : Int} : gLt (.int i) (.int j) h = .ok (.bl (decide (i < j))) h := rfl
@[simp] theorem gLe_int {i j : Int} : gLe (.int i) (.int j) h = .ok (.bl (decide (i ≤ j))) h := rfl
@[simp] theorem gGt_int {i j : Int} : gGt (.int i) (.int j) h = .ok (.bl (decide (j < i))) h := rfl
@[simp] theorem gGe_int {i j : Int} : gGe (.int i) (.int j) h = .ok (.bl (decide (j ≤ i))) h := rfl
@[simp] theorem gNeg_int {i : Int} : gNeg (.int i) h = .ok (.int (-i)) h := rfl
@[simp] theorem gIsN_non {x : Val} : gIsN x .non h = .ok (.bl x.isNon) h := rfl
@[simp] theorem gNotN_non {x : Val} : gNotN x .non h = .ok (.bl (!x.isNon)) h := rfl
@[simp] theorem isNon_non : Val.isNon .non = true := rfl
@[simp] theorem isNon_int {i : Int} : Val.isNon (.int i) = false := rfl
@[simp] theorem isNon_bl {i : Bool} : Val.isNon (.bl i) = false := rfl
@[simp] theorem isNon_str {i : List Nat} : Val.isNon (.str i) = false := rfl
@[simp] theorem isNon_tup {i : List Val} : Val.isNon (.tup i) = false := rfl
@[simp] theorem isNon_fl {i : List Val} : Val.isNon (.fl i) = false := rfl
@[simp] theorem isNon_ref {i : Nat} : Val.isNon (.ref i) = false := rfl
@[simp] theorem gIn_fl {x : Val} {vs : List Val} : gIn x (.fl vs) h = if x.flat = true ∧ vs.all Val.flat = true then .ok (.bl (vs.any fun u => Val.eq u x)) h else .bad := rfl
@[simp] theorem gIn_tup {x : Val} {vs : List Val} : gIn x (.tup vs) h = if x.flat = true ∧ vs.all Val.flat = true then .ok (.bl (vs.any fun u => Val.eq u x)) h else .bad := rfl
@[simp] theorem gNotIn_fl {x : Val} {vs : List Val} : gNotIn x (.fl vs) h = if x.flat = true ∧ vs.all Val.flat = true then .ok (.bl (!vs.any fun u => Val.eq u x)) h else .bad := rfl
@[simp] theorem gNotIn_tup {x : Val} {vs : List Val} : gNotIn x (.tup vs) h = if x.flat = true ∧ vs.all Val.flat = true then .ok (.bl (!vs.any fun u => Val.eq u x)) h else .bad := rfl
@[simp] theorem flat_str {x : List Nat} : Val.flat (.str x) = true := rfl
@[simp] theorem flat_int {x : Int} : Val.flat (.int x) = true := rfl
@[simp] theorem flat_bl {x : Bool} : Val.flat (.bl x) = true := rfl
@[simp] theorem flat_non : Val.flat .non = true := rfl
@[simp] theorem veq_str {x y : List Nat} : Val.eq (.str x) (.str y) = decide (x = y) := by simp only [Val.eq]; exact Bool.eq_iff_iff.mpr (by simp)
@[simp] theorem veq_int {x y : Int} : Val.eq (.int x) (.int y) = decide (x = y) := by simp only [Val.eq]; exact Bool.eq_iff_iff.mpr (by simp)
@[simp] theorem veq_bl {x y : Bool} : Val.eq (.bl x) (.bl y) = decide (x = y) := by simp only [Val.eq]; exact Bool.eq_iff_iff.mpr (by simp)
@[simp] theorem veq_str_int {x : List Nat} {y : Int} : Val.eq (.str x) (.int y) = false := rfl
@[simp] theorem veq_int_str {x : List Nat} {y : Int} : Val.eq (.int y) (.str x) = false := rfl
@[simp] theorem firstAt_nil {y : Val} : firstAt y [] = none := rfl
@[simp] theorem firstAt_cons {y x : Val} {vs : List Val} : firstAt y (x :: vs) = if Val.eq x y = true then some 0 else (firstAt y vs).map (· + 1) := rfl
def indK : Option Nat → Hv → R Val
  | some j, h => .ok (.int j) h
  | none, _ => .bad
@[simp] theorem indK_some {j : Nat} : indK (some j) h = .ok (.int j) h := rfl
@[simp] theorem mIndex_fl {y : Val} {vs : List Val} : mIndex (.fl vs) [y] h = if y.flat = true ∧ vs.all Val.flat = true then indK (firstAt y vs) h else .bad := by
  show gIndex y vs h = _
  unfold gIndex
  split
  · cases firstAt y vs <;> rfl
  · rfl
/-! kinds -/
def isiK (tb : Nat → Bool) (v : Val) (h : Hv) : R Val := gIsi tb v h
@[simp] theorem gIsi_non {tb : Nat → Bool} : gIsi tb .non h = .ok (.bl (tb 0)) h := rfl
@[simp] theorem gIsi_bl {tb : Nat → Bool} {x : Bool} : gIsi tb (.bl x) h = .ok (.bl (tb 1)) h := rfl
@[simp] theorem gIsi_int {tb : Nat → Bool} {x : Int} : gIsi tb (.int x) h = .ok (.bl (tb 2)) h := rfl
@[simp] theorem gIsi_str {tb : Nat → Bool} {x : List Nat} : gIsi tb (.str x) h = .ok (.bl (tb 3)) h := rfl
@[simp] theorem gIsi_tup {tb : Nat → Bool} {x : List Val} : gIsi tb (.tup x) h = .ok (.bl (tb 4)) h := rfl
@[simp] theorem gIsi_fl {tb : Nat → Bool} {x : List Val} : gIsi tb (.fl x) h = .ok (.bl (tb 5)) h := rfl
@[simp] theorem gIsi_kl {tb : Nat → Bool} {x : List Val} : gIsi tb (.kl x) h = .ok (.bl (tb 5)) h := rfl
/-! built-ins -/
@[simp] theorem cInt_int {i : Int} : cInt [.int i] h = .ok (.int i) h := rfl
@[simp] theorem cInt_bl {i : Bool} : cInt [.bl i] h = .ok (.int (if i = true then 1 else 0)) h := rfl
@[simp] theorem cAbs_int {i : Int} : cAbs [.int i] h = .ok (.int (if i < 0 then -i else i)) h := rfl
@[simp] theorem cMax_int {i j : Int} : cMax [.int i, .int j] h = .ok (.int (if j > i then j else i)) h := rfl
@[simp] theorem cMin_int {i j : Int} : cMin [.int i, .int j] h = .ok (.int (if j < i then j else i)) h := rfl
@[simp] theorem cLen_fl {vs : List Val} : cLen [.fl vs] h = .ok (.int vs.length) h := rfl
@[simp] theorem cLen_kl {vs : List Val} : cLen [.kl vs] h = .ok (.int vs.length) h := rfl
@[simp] theorem cLen_tup {vs : List Val} : cLen [.tup vs] h = .ok (.int vs.length) h := rfl
@[simp] theorem cLen_str {x : List Nat} : cLen [.str x] h = if x.length ≤ 16777216 then .ok (.int x.length) h else .bad := rfl
@[simp] theorem cList_fl {vs : List Val} : cList [.fl vs] h = .ok (.fl vs) h := rfl
@[simp] theorem cList_kl {vs : List Val} : cList [.kl vs] h = .ok (.fl vs) h := rfl
@[simp] theorem cList_tup {vs : List Val} : cList [.tup vs] h = .ok (.fl vs) h := rfl
@[simp] theorem cListN_fl {vs : List Val} : cListN [.fl vs] h = .ok (.ref h.length) (h ++ [.lst vs]) := rfl
@[simp] theorem cListN_tup {vs : List Val} : cListN [.tup vs] h = .ok (.ref h.length) (h ++ [.lst vs]) := rfl
@[simp] theorem cTup_fl {vs : List Val} : cTup [.fl vs] h = .ok (.tup vs) h := rfl
@[simp] theorem cTup_tup {vs : List Val} : cTup [.tup vs] h = .ok (.tup vs) h := rfl
/-! places -/
def ixK (vs : List Val) (i : Int) (h : Hv) : R Val := match ixv vs i with
  | some v => .ok v h
  | none => .bad
@[simp] theorem gIx_fl {vs : List Val} {i : Int} : gIx (.fl vs) (.int i) h = ixK vs i h := rfl
@[simp] theorem gIx_kl {vs : List Val} {i : Int} : gIx (.kl vs) (.int i) h = ixK vs i h := rfl
@[simp] theorem gIx_tup {vs : List Val} {i : Int} : gIx (.tup vs) (.int i) h = ixK vs i h := rfl
theorem ixK_of {vs : List Val} {i : Int} (e : ixv vs i = some v) : ixK vs i h = .ok v h := by unfold ixK; rw [e]
theorem ixK_nat {vs : List Val} {i : Nat} (e : vs[i]? = some v) : ixK vs (i : Int) h = .ok v h := ixK_of (by unfold ixv; rw [if_pos (by omega)]; simpa using e)
@[simp] theorem ixK_lit {vs : List Val} {n : Nat} : ixK vs (no_index (OfNat.ofNat n)) h = match vs[n]? with | some v => .ok v h | none => .bad := by
  unfold ixK ixv
  rw [if_pos (by exact Int.natCast_nonneg n)]
  rfl
end
section
variable {sv : Env} {h : Hv} {a : SE}
@[simp] theorem sSl_app {l u : SO} : sSl a l u sv h = (a sv h).bind fun v h1 => (l sv h1).bind fun lo h2 => (u sv h2).bind fun hi h3 => gSl v lo hi h3 := rfl
@[simp] theorem sNo_app : sNo sv h = .ok none h := rfl
def partK : Val → Hv → R (Option Int)
  | .int i, h => .ok (some i) h
  | _, _ => .bad
@[simp] theorem partK_int {i : Int} : partK (.int i) h = .ok (some i) h := rfl
@[simp] theorem sPart_app : sPart a sv h = (a sv h).bind partK := by
  unfold sPart
  exact bind_congr fun v h1 => by cases v <;> rfl
theorem slB_nat {n d k : Nat} : slB n d (some (k : Int)) = min k n := by
  show (if (k : Int) < 0 then (max ((k : Int) + n) 0).toNat else min (k : Int).toNat n) = _
  rw [if_neg (by omega), Int.toNat_natCast]
theorem gSl_to {vs : List Val} {k : Nat} (hk : k ≤ vs.length) : gSl (.fl vs) none (some (k : Int)) h = .ok (.fl (vs.take k)) h := by
  show R.ok (Val.fl (cutL vs none (some (k : Int)))) h = _
  unfold cutL
  rw [slB_nat]
  show R.ok (Val.fl ((vs.drop 0).take (min k vs.length - 0))) h = _
  rw [List.drop_zero, Nat.sub_zero, Nat.min_eq_left hk]
theorem gSl_from {vs : List Val} {k : Nat} (hk : k ≤ vs.length) : gSl (.fl vs) (some (k : Int)) none h = .ok (.fl (vs.drop k)) h := by
  show R.ok (Val.fl (cutL vs (some (k : Int)) none)) h = _
  unfold cutL
  rw [slB_nat, Nat.min_eq_left hk]
  show R.ok (Val.fl ((vs.drop k).take (vs.length - k))) h = _
  rw [List.take_of_length_le (by rw [List.length_drop]; exact Nat.le_refl _)]
end
/-! ### what holds of a result -/
def Ok {α : Type} (r : R α) (P : α → Hv → Prop) : Prop := ∃ a h, r = .ok a h ∧ P a h
section
variable {α β : Type}
theorem Ok.bind {r : R α} {k : α → Hv → R β} {P : α → Hv → Prop} {Q : β → Hv → Prop} (h1 : Ok r P) (h2 : ∀ a h, P a h → Ok (k a h) Q) : Ok (r.bind k) Q := by
  obtain ⟨a, h, e, p⟩ := h1
  rw [e]
  exact h2 a h p
theorem Ok.imp {r : R α} {P Q : α → Hv → Prop} (h1 : Ok r P) (h2 : ∀ a h, P a h → Q a h) : Ok r Q := by
  obtain ⟨a, h, e, p⟩ := h1
  exact ⟨a, h, e, h2 a h p⟩
theorem Ok.of {a : α} {h : Hv} {P : α → Hv → Prop} (p : P a h) : Ok (.ok a h) P := ⟨a, h, rfl, p⟩
theorem Ok.eq {r : R α} {a : α} {h : Hv} {P : α → Hv → Prop} (e : r = .ok a h) (p : P a h) : Ok r P := ⟨a, h, e, p⟩
def forK (g : SG) (b : SS) (ys : List Val) : Fl → Hv → R Fl
  | .nx s, h => sForL g b ys s h
  | .ct s, h => sForL g b ys s h
  | .bk s, h => .ok (.nx s) h
  | .rt v, h => .ok (.rt v) h
theorem sForL_cons {g : SG} {b : SS} {v : Val} {vs : List Val} {sv : Env} {h : Hv} : sForL g b (v :: vs) sv h = (g v sv h).bind fun s1 h1 => (b s1 h1).bind (forK g b vs) :=
  bind_congr fun s1 h1 => bind_congr fun f h2 => by cases f <;> rfl
theorem sForL_nil {g : SG} {b : SS} {sv : Env} {h : Hv} : sForL g b [] sv h = .ok (.nx sv) h := rfl
/-- a loop by an invariant of the turn -/
theorem for_ok {g : SG} {b : SS} {xs : List Val} {sv : Env} {h : Hv} (I : Nat → Env → Hv → Prop) (h0 : I 0 sv h)
    (step : ∀ i v sv h, xs[i]? = some v → I i sv h → Ok (g v sv h) fun s1 h1 => Ok (b s1 h1) fun f h2 => ∃ s2, (f = .nx s2 ∨ f = .ct s2) ∧ I (i + 1) s2 h2) :
    Ok (sForL g b xs sv h) fun f h' => ∃ s', f = .nx s' ∧ I xs.length s' h' := by
  have key : ∀ (ys : List Val) (i : Nat) (sv : Env) (h : Hv), xs.drop i = ys → I i sv h → Ok (sForL g b ys sv h) fun f h' => ∃ s', f = .nx s' ∧ I (i + ys.length) s' h' := by
    intro ys
    induction ys with
    | nil => intro i sv h _ hI; exact ⟨_, _, rfl, sv, rfl, hI⟩
    | cons y ys ih =>
      intro i sv h e hI
      have hy : xs[i]? = some y := by
        have : (xs.drop i)[0]? = some y := by rw [e]; rfl
        rw [List.getElem?_drop] at this
        simpa using this
      obtain ⟨s1, h1, e1, f, h2, e2, s2, hf, hI2⟩ := step i y sv h hy hI
      have e' : xs.drop (i + 1) = ys := by
        have : (xs.drop i).drop 1 = ys := by rw [e]; rfl
        rw [List.drop_drop] at this
        exact this
      obtain ⟨f3, h3, e3, s3, hf3, hI3⟩ := ih (i + 1) s2 h2 e' hI2
      refine ⟨f3, h3, ?_, s3, hf3, by rw [List.length_cons]; rw [show i + (ys.length + 1) = i + 1 + ys.length by omega]; exact hI3⟩
      unfold sForL
      rw [e1]
      show (b s1 h1).bind _ = _
      rw [e2]
      rcases hf with hf | hf <;> (subst hf; exact e3)
  have := key xs 0 sv h rfl h0
  simpa using this
/-- a loop that may hand back a value or go on -/
theorem for_ok' {g : SG} {b : SS} {xs : List Val} {sv : Env} {h : Hv} {Q : Fl → Hv → Prop} (I : Nat → Env → Hv → Prop) (h0 : I 0 sv h)
    (step : ∀ i v sv h, xs[i]? = some v → I i sv h → Ok (g v sv h) fun s1 h1 => Ok (b s1 h1) fun f h2 => (∃ s2, (f = .nx s2 ∨ f = .ct s2) ∧ I (i + 1) s2 h2) ∨ (∃ s2, f = .bk s2 ∧ Q (.nx s2) h2) ∨ (∃ v, f = .rt v ∧ Q (.rt v) h2))
    (done : ∀ sv h, I xs.length sv h → Q (.nx sv) h) : Ok (sForL g b xs sv h) Q := by
  have key : ∀ (ys : List Val) (i : Nat) (sv : Env) (h : Hv), i + ys.length = xs.length → xs.drop i = ys → I i sv h → Ok (sForL g b ys sv h) Q := by
    intro ys
    induction ys with
    | nil =>
      intro i sv h hlen e hI
      have hi : i = xs.length := by simpa using hlen
      subst hi; exact ⟨_, _, rfl, done _ _ hI⟩
    | cons y ys ih =>
      intro i sv h hlen e hI
      rw [List.length_cons] at hlen
      have hy : xs[i]? = some y := by
        have : (xs.drop i)[0]? = some y := by rw [e]; rfl
        rw [List.getElem?_drop] at this
        simpa using this
      obtain ⟨s1, h1, e1, f, h2, e2, hf⟩ := step i y sv h hy hI
      have e' : xs.drop (i + 1) = ys := by
        have : (xs.drop i).drop 1 = ys := by rw [e]; rfl
        rw [List.drop_drop] at this
        exact this
      have eq : sForL g b (y :: ys) sv h = forK g b ys f h2 := by
        rw [sForL_cons, e1, bind_ok, e2, bind_ok]
      rw [eq]
      rcases hf with ⟨s2, hf, hI2⟩ | ⟨s2, hf, q⟩ | ⟨v, hf, q⟩
      · rcases hf with hf | hf <;> (subst hf; exact ih (i + 1) s2 h2 (by omega) e' hI2)
      · subst hf; exact ⟨_, _, rfl, q⟩
      · subst hf; exact ⟨_, _, rfl, q⟩
  exact key xs 0 sv h (by simp) rfl h0
def whK (c : ST) (b : SS) (n : Nat) : Fl → Hv → R Fl
  | .nx s, h => sWhile c b n s h
  | .ct s, h => sWhile c b n s h
  | .bk s, h => .ok (.nx s) h
  | .rt v, h => .ok (.rt v) h
theorem sWhile_s {c : ST} {b : SS} {n : Nat} {sv : Env} {h : Hv} : sWhile c b (n + 1) sv h = (c sv h).bind fun k h1 => if k = true then (b sv h1).bind (whK c b n) else .ok (.nx sv) h1 := by
  show (c sv h).bind _ = _
  refine bind_congr fun k h1 => ?_
  cases k
  · rfl
  · show (b sv h1).bind _ = _
    exact bind_congr fun f h2 => by cases f <;> rfl
/-- a while by an invariant and a measure -/
theorem while_ok {c : ST} {b : SS} {Q : Fl → Hv → Prop} (I : Env → Hv → Prop) (μ : Env → Hv → Nat)
    (step : ∀ sv h, I sv h → Ok (c sv h) fun k h1 => if k = true then Ok (b sv h1) fun f h2 => (∃ s2, (f = .nx s2 ∨ f = .ct s2) ∧ I s2 h2 ∧ μ s2 h2 < μ sv h) ∨ (∃ s2, f = .bk s2 ∧ Q (.nx s2) h2) ∨ (∃ v, f = .rt v ∧ Q (.rt v) h2) else Q (.nx sv) h1) :
    ∀ (n : Nat) (sv : Env) (h : Hv), I sv h → μ sv h < n → Ok (sWhile c b n sv h) Q := by
  intro n
  induction n with
  | zero => intro sv h _ hn; exact absurd hn (Nat.not_lt_zero _)
  | succ n ih =>
    intro sv h hI hn
    obtain ⟨k, h1, e1, p⟩ := step sv h hI
    rw [sWhile_s, e1, bind_ok]
    cases k with
    | false => rw [if_neg Bool.false_ne_true] at p ⊢; exact ⟨_, _, rfl, p⟩
    | true =>
      rw [if_pos rfl] at p ⊢
      obtain ⟨f, h2, e2, q⟩ := p
      rw [e2, bind_ok]
      rcases q with ⟨s2, hf, hI2, hμ⟩ | ⟨s2, hf, q⟩ | ⟨v, hf, q⟩
      · rcases hf with hf | hf <;> (subst hf; exact ih s2 h2 hI2 (by omega))
      · subst hf; exact ⟨_, _, rfl, q⟩
      · subst hf; exact ⟨_, _, rfl, q⟩
theorem big_lt {n : Nat} (h : n < 1000000000000) : n < bigN := h
/-- a comprehension whose elements are reckoned without change -/
theorem lcL_map {g : SG} {t : ST} {e : SE} {sv : Env} {h : Hv} {F : Val → Val} : ∀ (xs : List Val) (n : Nat), (∀ v ∈ xs, ∃ s1, g v sv h = .ok s1 h ∧ t s1 h = .ok true h ∧ e s1 h = .ok (F v) h) → n + xs.length ≤ 16777216 → sLcL g t e sv n xs h = .ok (xs.map F) h
  | [], _, _, _ => rfl
  | v :: vs, n, hv, hn => by
    obtain ⟨s1, h1, h2, h3⟩ := hv v List.mem_cons_self
    rw [List.length_cons] at hn
    have ih := lcL_map (F := F) vs (n + 1) (fun u hu => hv u (List.mem_cons_of_mem _ hu)) (by omega)
    show (g v sv h).bind _ = _
    rw [h1, bind_ok]
    show (t s1 h).bind _ = _
    rw [h2, bind_ok, if_pos rfl, h3, bind_ok, if_pos (by omega), ih]
    rfl
/-- a comprehension that changes the cells: by an invariant of what is made -/
theorem lcL_ok {g : SG} {t : ST} {e : SE} {sv : Env} {xs : List Val} (I : Nat → List Val → Hv → Prop) {h : Hv} (h0 : I 0 [] h)
    (step : ∀ i v acc h, xs[i]? = some v → I i acc h → acc.length ≤ i → Ok (g v sv h) fun s1 h1 => Ok (t s1 h1) fun k h2 => if k = true then Ok (e s1 h2) fun y h3 => I (i + 1) (acc ++ [y]) h3 else I (i + 1) acc h2) (hl : xs.length ≤ 16777216) :
    Ok (sLcL g t e sv 0 xs h) fun ys h' => I xs.length ys h' := by
  have key : ∀ (vs : List Val) (i : Nat) (acc : List Val) (h : Hv), i + vs.length = xs.length → xs.drop i = vs → I i acc h → acc.length ≤ i → Ok (sLcL g t e sv acc.length vs h) fun ys h' => I xs.length (acc ++ ys) h' := by
    intro vs
    induction vs with
    | nil =>
      intro i acc h hlen _ hI _
      have hi : i = xs.length := by simpa using hlen
      subst hi
      exact ⟨[], h, rfl, by show I xs.length (acc ++ []) h; rw [List.append_nil]; exact hI⟩
    | cons v vs ih =>
      intro i acc h hlen ed hI ha
      rw [List.length_cons] at hlen
      have hy : xs[i]? = some v := by
        have : (xs.drop i)[0]? = some v := by rw [ed]; rfl
        rw [List.getElem?_drop] at this
        simpa using this
      have e' : xs.drop (i + 1) = vs := by
        have : (xs.drop i).drop 1 = vs := by rw [ed]; rfl
        rw [List.drop_drop] at this
        exact this
      obtain ⟨s1, h1, e1, k, h2, e2, p⟩ := step i v acc h hy hI ha
      show Ok ((g v sv h).bind _) _
      rw [e1, bind_ok]
      show Ok ((t s1 h1).bind _) _
      rw [e2, bind_ok]
      cases k with
      | false =>
        rw [if_neg Bool.false_ne_true] at p
        exact ih (i + 1) acc h2 (by omega) e' p (by omega)
      | true =>
        rw [if_pos rfl] at p
        obtain ⟨y, h3, e3, hI3⟩ := p
        show Ok ((e s1 h2).bind _) _
        rw [e3, bind_ok, if_pos (by omega)]
        have q := ih (i + 1) (acc ++ [y]) h3 (by omega) e' hI3 (by rw [List.length_append, List.length_singleton]; omega)
        rw [List.length_append, List.length_singleton] at q
        refine Ok.bind q fun ys h4 q4 => ⟨_, _, rfl, ?_⟩
        have ea : acc ++ y :: ys = acc ++ [y] ++ ys := by simp
        show I xs.length (acc ++ y :: ys) h4
        rw [ea]; exact q4
  have := key xs 0 [] h (by simp) rfl h0 (Nat.le_refl _)
  simpa using this
end
end Sx

set_option Elab.async false
set_option linter.all false
/-! SxMath: words and their operators, in plain Lean. -/
namespace Wd
open PySem
def wrapW (n : Int) : Int := if n % 4294967296 > 2147483647 then n % 4294967296 - 4294967296 else n % 4294967296
def isW (n : Int) : Prop := -2147483648 ≤ n ∧ n ≤ 2147483647
instance (n : Int) : Decidable (isW n) := inferInstanceAs (Decidable (_ ∧ _))
theorem wrap_w (n : Int) : isW (wrapW n) := by unfold wrapW isW; split <;> omega
theorem wrap_id {n : Int} (h : isW n) : wrapW n = n := by unfold wrapW; unfold isW at h; split <;> omega
theorem wrap_mod (n : Int) : wrapW n % 4294967296 = n % 4294967296 := by unfold wrapW; split <;> omega
theorem wrap_eq {n m : Int} (h : n % 4294967296 = m % 4294967296) : wrapW n = wrapW m := by unfold wrapW; rw [h]
theorem wrap_law (n : Int) : (n + 2147483648) % 4294967296 - 2147483648 = wrapW n := by unfold wrapW; split <;> omega
theorem wrap_wrap (n : Int) : wrapW (wrapW n) = wrapW n := wrap_id (wrap_w n)
theorem wrap_iff {n m : Int} : wrapW n = wrapW m ↔ n % 4294967296 = m % 4294967296 := ⟨fun h => by rw [← wrap_mod n, ← wrap_mod m, h], wrap_eq⟩
/-! bits -/
/-- k bits of two numbers, one by one -/
def F (f : Int → Int → Int) : Nat → Int → Int → Int
  | 0, _, _ => 0
  | k + 1, x, y => f (x % 2) (y % 2) + 2 * F f k (x / 2) (y / 2)
theorem F_end (f : Int → Int → Int) : ∀ (k : Nat) (x y : Int), F f (k + 1) x y = F f k x y + f (x / 2 ^ k % 2) (y / 2 ^ k % 2) * 2 ^ k
  | 0, x, y => by simp [F]
  | k + 1, x, y => by
    have h := F_end f k (x / 2) (y / 2)
    have e : ∀ z : Int, z / 2 / 2 ^ k = z / 2 ^ (k + 1) := fun z => by
      rw [Int.ediv_ediv_of_nonneg (by decide), Int.pow_succ, Int.mul_comm]
    rw [e, e] at h
    show f (x % 2) (y % 2) + 2 * F f (k + 1) (x / 2) (y / 2) = f (x % 2) (y % 2) + 2 * F f k (x / 2) (y / 2) + f (x / 2 ^ (k + 1) % 2) (y / 2 ^ (k + 1) % 2) * 2 ^ (k + 1)
    rw [h, Int.pow_succ]
    generalize f (x / 2 ^ (k + 1) % 2) (y / 2 ^ (k + 1) % 2) = c
    generalize (2 : Int) ^ k = p
    rw [Int.mul_add, Int.add_assoc]
    congr 2
    rw [Int.mul_left_comm, Int.mul_comm 2 p]
def Bit (f : Int → Int → Int) : Prop := ∀ b c, (b = 0 ∨ b = 1) → (c = 0 ∨ c = 1) → f b c = 0 ∨ f b c = 1
theorem m2 (x : Int) : x % 2 = 0 ∨ x % 2 = 1 := by omega
theorem F_lt {f : Int → Int → Int} (hf : Bit f) : ∀ (k : Nat) (x y : Int), 0 ≤ F f k x y ∧ F f k x y < 2 ^ k
  | 0, _, _ => by simp [F]
  | k + 1, x, y => by
    have h := F_lt hf k (x / 2) (y / 2)
    have hb := hf (x % 2) (y % 2) (m2 x) (m2 y)
    unfold F
    rw [Int.pow_succ]
    omega
theorem F_low {f : Int → Int → Int} (hf : Bit f) (k : Nat) (x y : Int) : F f (k + 1) x y % 2 = f (x % 2) (y % 2) ∧ F f (k + 1) x y / 2 = F f k (x / 2) (y / 2) := by
  have hb := hf (x % 2) (y % 2) (m2 x) (m2 y)
  have e : F f (k + 1) x y = f (x % 2) (y % 2) + 2 * F f k (x / 2) (y / 2) := rfl
  rw [e]
  omega
theorem F_assoc {f : Int → Int → Int} (hf : Bit f) (ha : ∀ b c d, (b = 0 ∨ b = 1) → (c = 0 ∨ c = 1) → (d = 0 ∨ d = 1) → f (f b c) d = f b (f c d)) : ∀ (k : Nat) (x y z : Int), F f k (F f k x y) z = F f k x (F f k y z)
  | 0, _, _, _ => rfl
  | k + 1, x, y, z => by
    have h1 := F_low hf k x y
    have h2 := F_low hf k y z
    show f (F f (k + 1) x y % 2) (z % 2) + 2 * F f k (F f (k + 1) x y / 2) (z / 2) = f (x % 2) (F f (k + 1) y z % 2) + 2 * F f k (x / 2) (F f (k + 1) y z / 2)
    rw [h1.1, h1.2, h2.1, h2.2, ha _ _ _ (m2 x) (m2 y) (m2 z), F_assoc hf ha k]
theorem F_comm {f : Int → Int → Int} (hc : ∀ b c, (b = 0 ∨ b = 1) → (c = 0 ∨ c = 1) → f b c = f c b) : ∀ (k : Nat) (x y : Int), F f k x y = F f k y x
  | 0, _, _ => rfl
  | k + 1, x, y => by unfold F; rw [hc _ _ (m2 x) (m2 y), F_comm hc k]
theorem half_mod {x x' p : Int} (h : x % (2 * p) = x' % (2 * p)) (hp : 0 < p) : x % 2 = x' % 2 ∧ x / 2 % p = x' / 2 % p := by
  have e1 : x % (2 * p) % 2 = x % 2 := Int.emod_emod_of_dvd x ⟨p, rfl⟩
  have e2 : x' % (2 * p) % 2 = x' % 2 := Int.emod_emod_of_dvd x' ⟨p, rfl⟩
  refine ⟨by rw [← e1, ← e2, h], ?_⟩
  have a1 := Int.emod_add_mul_ediv x (2 * p)
  have a2 := Int.emod_add_mul_ediv x' (2 * p)
  have b1 : x / 2 = x % (2 * p) / 2 + p * (x / (2 * p)) := by
    have : x = x % (2 * p) + 2 * (p * (x / (2 * p))) := by rw [← Int.mul_assoc]; omega
    generalize p * (x / (2 * p)) = q at this ⊢
    omega
  have b2 : x' / 2 = x' % (2 * p) / 2 + p * (x' / (2 * p)) := by
    have : x' = x' % (2 * p) + 2 * (p * (x' / (2 * p))) := by rw [← Int.mul_assoc]; omega
    generalize p * (x' / (2 * p)) = q at this ⊢
    omega
  rw [b1, b2, Int.add_mul_emod_self_left, Int.add_mul_emod_self_left, h]
theorem F_modl {f : Int → Int → Int} : ∀ (k : Nat) {x x' : Int} (y : Int), x % 2 ^ k = x' % 2 ^ k → F f k x y = F f k x' y
  | 0, _, _, _, _ => rfl
  | k + 1, x, x', y, h => by
    rw [Int.pow_succ, Int.mul_comm] at h
    obtain ⟨h1, h2⟩ := half_mod h (Int.pow_pos (by decide))
    unfold F
    rw [h1, F_modl k (y / 2) h2]
theorem F_modr {f : Int → Int → Int} : ∀ (k : Nat) (x : Int) {y y' : Int}, y % 2 ^ k = y' % 2 ^ k → F f k x y = F f k x y'
  | 0, _, _, _, _ => rfl
  | k + 1, x, y, y', h => by
    rw [Int.pow_succ, Int.mul_comm] at h
    obtain ⟨h1, h2⟩ := half_mod h (Int.pow_pos (by decide))
    unfold F
    rw [h1, F_modr k (x / 2) h2]
theorem mod_step (x : Int) (k : Nat) : x % 2 ^ (k + 1) = x % 2 + 2 * (x / 2 % 2 ^ k) := by
  have h1 : x % 2 ^ (k + 1) = (x % 2 + 2 * (x / 2 % 2 ^ k)) % 2 ^ (k + 1) := by
    have e : x = x % 2 + 2 * (x / 2 % 2 ^ k) + 2 ^ (k + 1) * (x / 2 / 2 ^ k) := by
      have a := Int.emod_add_mul_ediv (x / 2) (2 ^ k)
      rw [Int.pow_succ, Int.mul_comm (2 ^ k) 2, Int.mul_assoc]
      generalize (2 : Int) ^ k * (x / 2 / 2 ^ k) = q at a ⊢
      omega
    calc x % 2 ^ (k + 1) = (x % 2 + 2 * (x / 2 % 2 ^ k) + 2 ^ (k + 1) * (x / 2 / 2 ^ k)) % 2 ^ (k + 1) := by rw [← e]
      _ = _ := Int.add_mul_emod_self_left ..
  have hp : (0 : Int) < 2 ^ k := Int.pow_pos (by decide)
  have h2 := Int.emod_nonneg (x / 2) (Int.ne_of_gt hp)
  have h3 := Int.emod_lt_of_pos (x / 2) hp
  rw [h1]
  refine Int.emod_eq_of_lt (by omega) ?_
  rw [Int.pow_succ]
  omega
/-- a bit that is as it is by a neutral one -/
theorem F_neutral {f : Int → Int → Int} {y : Int} (hy : y / 2 = y) (hn : ∀ b, (b = 0 ∨ b = 1) → f b (y % 2) = b) : ∀ (k : Nat) (x : Int), F f k x y = x % 2 ^ k
  | 0, x => by simp [F]
  | k + 1, x => by
    rw [mod_step]
    unfold F
    rw [hn _ (m2 x), hy, F_neutral hy hn k]
def fAnd (b c : Int) : Int := b * c
def fOr (b c : Int) : Int := if b > c then b else c
def fXor (b c : Int) : Int := (b + c) % 2
theorem natAnd (m n : Nat) : ((m &&& n : Nat) : Int) = ((m % 2 * (n % 2) : Nat) : Int) + 2 * ((m / 2 &&& n / 2 : Nat) : Int) := by
  have h1 : (m &&& n) / 2 = m / 2 &&& n / 2 := Nat.and_div_two ..
  have h2 : (m &&& n) % 2 = m % 2 * (n % 2) := by
    rcases Nat.mod_two_eq_zero_or_one m with a | a <;> rcases Nat.mod_two_eq_zero_or_one n with b | b <;> rw [a, b] <;> have := Nat.and_mod_two_eq_one (a := m) (b := n) <;> omega
  omega
theorem natOr (m n : Nat) : ((m ||| n : Nat) : Int) = (m : Int) + n - ((m &&& n : Nat) : Int) := by
  have := PyProof.Rows.nat_or_add_and m n
  omega
theorem int_form (x : Int) : (∃ m : Nat, x = m) ∨ ∃ m : Nat, x = -(m : Int) - 1 := by
  by_cases h : 0 ≤ x
  · exact .inl ⟨x.toNat, by omega⟩
  · exact .inr ⟨(-x - 1).toNat, by omega⟩
theorem and_pp (m n : Nat) : Builtin.bitAnd (m : Int) n = ((m &&& n : Nat) : Int) := by
  rw [PyProof.Rows.bitAnd_pp (by omega) (by omega), Int.toNat_natCast, Int.toNat_natCast]
theorem not_neg (n : Nat) : (Builtin.bitNot (-(n : Int) - 1)).toNat = n := by unfold Builtin.bitNot; omega
theorem and_pn (m n : Nat) : Builtin.bitAnd (m : Int) (-(n : Int) - 1) = (m : Int) - ((m &&& n : Nat) : Int) := by
  rw [PyProof.Rows.bitAnd_pn (by omega) (by omega), Int.toNat_natCast, not_neg]
theorem and_np (m n : Nat) : Builtin.bitAnd (-(n : Int) - 1) (m : Int) = (m : Int) - ((m &&& n : Nat) : Int) := by
  rw [PyProof.Rows.bitAnd_np (by omega) (by omega), Int.toNat_natCast, not_neg]
theorem and_nn (m n : Nat) : Builtin.bitAnd (-(m : Int) - 1) (-(n : Int) - 1) = -((m ||| n : Nat) : Int) - 1 := by
  rw [PyProof.Rows.bitAnd_nn (by omega) (by omega), not_neg, not_neg]; rfl
theorem neg_half (n : Nat) : (-(n : Int) - 1) / 2 = -((n / 2 : Nat) : Int) - 1 := by omega
theorem neg_two (n : Nat) : (-(n : Int) - 1) % 2 = 1 - ((n % 2 : Nat) : Int) := by omega
theorem pos_half (n : Nat) : (n : Int) / 2 = ((n / 2 : Nat) : Int) := by omega
theorem pos_two (n : Nat) : (n : Int) % 2 = ((n % 2 : Nat) : Int) := by omega
theorem bitAnd_step (x y : Int) : Builtin.bitAnd x y = (x % 2) * (y % 2) + 2 * Builtin.bitAnd (x / 2) (y / 2) := by
  have key : ∀ m n : Nat, ((m &&& n : Nat) : Int) = ((m % 2 * (n % 2) : Nat) : Int) + 2 * ((m / 2 &&& n / 2 : Nat) : Int) := natAnd
  have orr : ∀ m n : Nat, ((m ||| n : Nat) : Int) = (m : Int) + n - ((m &&& n : Nat) : Int) := natOr
  rcases int_form x with ⟨m, rfl⟩ | ⟨m, rfl⟩ <;> rcases int_form y with ⟨n, rfl⟩ | ⟨n, rfl⟩
  · rw [pos_half, pos_half, pos_two, pos_two, and_pp, and_pp, key m n]
    push_cast
    omega
  · rw [pos_half, neg_half, pos_two, neg_two, and_pn, and_pn, key m n]
    rcases Nat.mod_two_eq_zero_or_one m with a | a <;> rcases Nat.mod_two_eq_zero_or_one n with b | b <;> rw [a, b] <;> omega
  · rw [neg_half, pos_half, neg_two, pos_two, and_np, and_np, key n m]
    rcases Nat.mod_two_eq_zero_or_one m with a | a <;> rcases Nat.mod_two_eq_zero_or_one n with b | b <;> rw [a, b] <;> omega
  · rw [neg_half, neg_half, neg_two, neg_two, and_nn, and_nn, orr, orr, key m n]
    rcases Nat.mod_two_eq_zero_or_one m with a | a <;> rcases Nat.mod_two_eq_zero_or_one n with b | b <;> rw [a, b] <;> omega
theorem bitAnd_F : ∀ (k : Nat) (x y : Int), Builtin.bitAnd x y % 2 ^ k = F fAnd k x y
  | 0, x, y => by simp [F]
  | k + 1, x, y => by
    have e : ∀ z : Int, F fAnd (k + 1) x y = (x % 2) * (y % 2) + 2 * F fAnd k (x / 2) (y / 2) := fun _ => rfl
    rw [mod_step, e 0]
    have h := bitAnd_step x y
    have hb : (x % 2) * (y % 2) = 0 ∨ (x % 2) * (y % 2) = 1 := by
      rcases m2 x with a | a <;> rcases m2 y with b | b <;> rw [a, b] <;> simp
    have h1 : Builtin.bitAnd x y % 2 = (x % 2) * (y % 2) := by omega
    have h2 : Builtin.bitAnd x y / 2 = Builtin.bitAnd (x / 2) (y / 2) := by omega
    rw [h1, h2, bitAnd_F k]
theorem F_or : ∀ (k : Nat) (x y : Int), F fOr k x y = x % 2 ^ k + y % 2 ^ k - F fAnd k x y
  | 0, x, y => by simp [F]
  | k + 1, x, y => by
    have e1 : F fOr (k + 1) x y = fOr (x % 2) (y % 2) + 2 * F fOr k (x / 2) (y / 2) := rfl
    have e2 : F fAnd (k + 1) x y = fAnd (x % 2) (y % 2) + 2 * F fAnd k (x / 2) (y / 2) := rfl
    have hb : fOr (x % 2) (y % 2) = x % 2 + y % 2 - fAnd (x % 2) (y % 2) := by
      unfold fOr fAnd
      rcases m2 x with a | a <;> rcases m2 y with b | b <;> rw [a, b] <;> simp
    rw [e1, e2, mod_step, mod_step, F_or k, hb]
    omega
theorem F_xor : ∀ (k : Nat) (x y : Int), F fXor k x y = x % 2 ^ k + y % 2 ^ k - 2 * F fAnd k x y
  | 0, x, y => by simp [F]
  | k + 1, x, y => by
    have e1 : F fXor (k + 1) x y = fXor (x % 2) (y % 2) + 2 * F fXor k (x / 2) (y / 2) := rfl
    have e2 : F fAnd (k + 1) x y = fAnd (x % 2) (y % 2) + 2 * F fAnd k (x / 2) (y / 2) := rfl
    have hb : fXor (x % 2) (y % 2) = x % 2 + y % 2 - 2 * fAnd (x % 2) (y % 2) := by
      unfold fXor fAnd
      rcases m2 x with a | a <;> rcases m2 y with b | b <;> rw [a, b] <;> simp
    rw [e1, e2, mod_step, mod_step, F_xor k, hb]
    omega
theorem F_range {f : Int → Int → Int} (hf : Bit f) (x y : Int) : F f 32 x y % 4294967296 = F f 32 x y := by
  have h := F_lt hf 32 x y
  exact Int.emod_eq_of_lt h.1 h.2
theorem bit_and : Bit fAnd := by intro b c hb hc; unfold fAnd; rcases hb with rfl | rfl <;> rcases hc with rfl | rfl <;> simp
theorem bit_or : Bit fOr := by intro b c hb hc; unfold fOr; rcases hb with rfl | rfl <;> rcases hc with rfl | rfl <;> simp
theorem bit_xor : Bit fXor := by intro b c hb hc; unfold fXor; rcases hb with rfl | rfl <;> rcases hc with rfl | rfl <;> simp
theorem and_mod (x y : Int) : Builtin.bitAnd x y % 4294967296 = F fAnd 32 x y := bitAnd_F 32 x y
theorem or_mod (x y : Int) : Builtin.bitOr x y % 4294967296 = F fOr 32 x y := by
  have h := F_or 32 x y
  have h1 := and_mod x y
  have h2 := F_lt bit_or 32 x y
  rw [PyProof.Rows.bitOr_and]
  simp only [Int.reducePow] at h h2
  omega
theorem xor_mod (x y : Int) : Builtin.bitXor x y % 4294967296 = F fXor 32 x y := by
  have h := F_xor 32 x y
  have h1 := and_mod x y
  have h2 := F_lt bit_xor 32 x y
  rw [PyProof.Rows.bitXor_and]
  simp only [Int.reducePow] at h h2
  omega
end Wd
namespace Wd
open PySem
/-- the quotient rounded towards 0 -/
def divW (a b : Int) : Int := if b = 0 then 0 else if (a < 0) ≠ (b < 0) then -((if a < 0 then -a else a) / (if b < 0 then -b else b)) else (if a < 0 then -a else a) / (if b < 0 then -b else b)
def t_add : List Nat := [97, 100, 100]
def t_sub : List Nat := [115, 117, 98]
def t_mul : List Nat := [109, 117, 108]
def t_div : List Nat := [100, 105, 118]
def t_rem : List Nat := [114, 101, 109]
def t_and : List Nat := [97, 110, 100]
def t_or : List Nat := [111, 114]
def t_xor : List Nat := [120, 111, 114]
def t_shl : List Nat := [115, 104, 108]
def t_shr : List Nat := [115, 104, 114]
def t_lt : List Nat := [108, 116]
def t_le : List Nat := [108, 101]
def t_eq : List Nat := [101, 113]
def t_ne : List Nat := [110, 101]
def t_min : List Nat := [109, 105, 110]
def t_max : List Nat := [109, 97, 120]
def t_neg : List Nat := [110, 101, 103]
def t_not : List Nat := [110, 111, 116]
def t_zero : List Nat := [122, 101, 114, 111]
def BINS : List (List Nat) := [t_add, t_sub, t_mul, t_div, t_rem, t_and, t_or, t_xor, t_shl, t_shr, t_lt, t_le, t_eq, t_ne, t_min, t_max]
def FOLDS : List (List Nat) := [t_add, t_min, t_max, t_and, t_or, t_xor]
def UNS : List (List Nat) := [t_neg, t_not, t_zero]
def b2 (p : Bool) : Int := if p = true then 1 else 0
def binW (op : List Nat) (a b : Int) : Int :=
  if op = t_add then wrapW (a + b) else if op = t_sub then wrapW (a - b) else if op = t_mul then wrapW (a * b) else
  if op = t_div then wrapW (divW a b) else if op = t_rem then wrapW (if b = 0 then 0 else a - divW a b * b) else
  if op = t_and then wrapW (F fAnd 32 a b) else if op = t_or then wrapW (F fOr 32 a b) else if op = t_xor then wrapW (F fXor 32 a b) else
  if op = t_shl then wrapW (a * 2 ^ (b % 32).toNat) else if op = t_shr then wrapW (a / 2 ^ (b % 32).toNat) else
  if op = t_lt then b2 (decide (a < b)) else if op = t_le then b2 (decide (a ≤ b)) else if op = t_eq then b2 (decide (a = b)) else if op = t_ne then b2 (!decide (a = b)) else
  if op = t_min then (if b < a then b else a) else if op = t_max then (if b > a then b else a) else 0
theorem isW_ite {c : Prop} [Decidable c] {x y : Int} (h1 : isW x) (h2 : isW y) : isW (if c then x else y) := by split <;> assumption
theorem b2_w (p : Bool) : isW (b2 p) := by unfold b2 isW; cases p <;> decide
theorem binW_w {a b : Int} (ha : isW a) (hb : isW b) (op : List Nat) : isW (binW op a b) := by
  unfold binW
  repeat' (with_reducible refine isW_ite ?_ ?_)
  all_goals first | exact wrap_w _ | exact b2_w _ | assumption | exact ⟨by decide, by decide⟩
def unW (op : List Nat) (a : Int) : Int := if op = t_neg then wrapW (-a) else if op = t_not then wrapW (-a - 1) else b2 (decide (a = 0))
def neuW (op : List Nat) : Int := if op = t_min then 2147483647 else if op = t_max then -2147483648 else if op = t_and then -1 else 0
def foldW (op : List Nat) (ws : List Int) : Int := ws.foldl (binW op) (neuW op)
theorem neu_w (op : List Nat) : isW (neuW op) := isW_ite ⟨by decide, by decide⟩ (isW_ite ⟨by decide, by decide⟩ (isW_ite ⟨by decide, by decide⟩ ⟨by decide, by decide⟩))
theorem fold_w {op : List Nat} : ∀ {ws : List Int} {x : Int}, isW x → (∀ w ∈ ws, isW w) → isW (ws.foldl (binW op) x)
  | [], _, h, _ => h
  | w :: ws, x, h, hw => by
    rw [List.foldl_cons]
    exact fold_w (binW_w h (hw w List.mem_cons_self) op) fun v hv => hw v (List.mem_cons_of_mem _ hv)
/-! operators that fold: neutral, associative, commutative -/
theorem bin_neutral {op : List Nat} (h : op ∈ FOLDS) {a : Int} (ha : isW a) : binW op a (neuW op) = a := by
  have hF : ∀ {f : Int → Int → Int} {y : Int}, y / 2 = y → (∀ b, (b = 0 ∨ b = 1) → f b (y % 2) = b) → wrapW (F f 32 a y) = a := fun {f y} hy hn => by
    rw [F_neutral hy hn]
    have : a % 2 ^ 32 % 4294967296 = a % 4294967296 := Int.emod_emod_of_dvd a ⟨1, by decide⟩
    rw [wrap_eq this, wrap_id ha]
  unfold isW at ha
  simp only [FOLDS, List.mem_cons, List.not_mem_nil, or_false] at h
  rcases h with rfl | rfl | rfl | rfl | rfl | rfl
  · show wrapW (a + 0) = a; rw [Int.add_zero]; exact wrap_id ha
  · show (if (2147483647 : Int) < a then (2147483647 : Int) else a) = a; split <;> omega
  · show (if (-2147483648 : Int) > a then (-2147483648 : Int) else a) = a; split <;> omega
  · show wrapW (F fAnd 32 a (-1)) = a; exact hF (by decide) fun b hb => by unfold fAnd; rcases hb with rfl | rfl <;> decide
  · show wrapW (F fOr 32 a 0) = a; exact hF (by decide) fun b hb => by unfold fOr; rcases hb with rfl | rfl <;> decide
  · show wrapW (F fXor 32 a 0) = a; exact hF (by decide) fun b hb => by unfold fXor; rcases hb with rfl | rfl <;> decide
theorem bin_comm {op : List Nat} (h : op ∈ FOLDS) (a b : Int) : binW op a b = binW op b a := by
  simp only [FOLDS, List.mem_cons, List.not_mem_nil, or_false] at h
  rcases h with rfl | rfl | rfl | rfl | rfl | rfl
  · show wrapW (a + b) = wrapW (b + a); rw [Int.add_comm]
  · show (if b < a then b else a) = (if a < b then a else b); split <;> split <;> omega
  · show (if b > a then b else a) = (if a > b then a else b); split <;> split <;> omega
  · show wrapW _ = wrapW _; rw [F_comm (f := fAnd) fun b c _ _ => Int.mul_comm b c]
  · show wrapW _ = wrapW _; rw [F_comm (f := fOr) fun b c _ _ => by unfold fOr; split <;> split <;> omega]
  · show wrapW _ = wrapW _; rw [F_comm (f := fXor) fun b c _ _ => by unfold fXor; rw [Int.add_comm]]
theorem bin_assoc {op : List Nat} (h : op ∈ FOLDS) (a b c : Int) : binW op (binW op a b) c = binW op a (binW op b c) := by
  have hF : ∀ {f : Int → Int → Int}, Bit f → (∀ b c d, (b = 0 ∨ b = 1) → (c = 0 ∨ c = 1) → (d = 0 ∨ d = 1) → f (f b c) d = f b (f c d)) → wrapW (F f 32 (wrapW (F f 32 a b)) c) = wrapW (F f 32 a (wrapW (F f 32 b c))) := fun {f} hb hf => by
    rw [F_modl (k := 32) (x := wrapW (F f 32 a b)) (x' := F f 32 a b) c (wrap_mod _), F_modr 32 a (y := wrapW (F f 32 b c)) (y' := F f 32 b c) (wrap_mod _), F_assoc hb hf]
  simp only [FOLDS, List.mem_cons, List.not_mem_nil, or_false] at h
  rcases h with rfl | rfl | rfl | rfl | rfl | rfl
  · show wrapW (wrapW (a + b) + c) = wrapW (a + wrapW (b + c))
    have h1 := wrap_mod (a + b)
    have h2 := wrap_mod (b + c)
    exact wrap_eq (by omega)
  · show (if c < (if b < a then b else a) then c else (if b < a then b else a)) = (if (if c < b then c else b) < a then (if c < b then c else b) else a)
    repeat' split
    all_goals omega
  · show (if c > (if b > a then b else a) then c else (if b > a then b else a)) = (if (if c > b then c else b) > a then (if c > b then c else b) else a)
    repeat' split
    all_goals omega
  · exact hF bit_and fun b c d _ _ _ => Int.mul_assoc b c d
  · exact hF bit_or fun b c d hb hc hd => by unfold fOr; rcases hb with rfl | rfl <;> rcases hc with rfl | rfl <;> rcases hd with rfl | rfl <;> decide
  · exact hF bit_xor fun b c d hb hc hd => by unfold fXor; rcases hb with rfl | rfl <;> rcases hc with rfl | rfl <;> rcases hd with rfl | rfl <;> decide
theorem fold_from {op : List Nat} (h : op ∈ FOLDS) : ∀ (ws : List Int) {x : Int}, isW x → (∀ w ∈ ws, isW w) → ws.foldl (binW op) x = binW op x (foldW op ws)
  | [], x, hx, _ => by show x = binW op x (neuW op); rw [bin_neutral h hx]
  | w :: ws, x, hx, hw => by
    have hw0 := hw w List.mem_cons_self
    have hws := fun v hv => hw v (List.mem_cons_of_mem _ hv)
    show ws.foldl (binW op) (binW op x w) = binW op x (ws.foldl (binW op) (binW op (neuW op) w))
    rw [fold_from h ws (binW_w hx hw0 op) hws, bin_comm h (neuW op) w, bin_neutral h hw0, fold_from h ws hw0 hws, bin_assoc h]
theorem fold_append {op : List Nat} (h : op ∈ FOLDS) {xs ys : List Int} (hx : ∀ w ∈ xs, isW w) (hy : ∀ w ∈ ys, isW w) : binW op (foldW op xs) (foldW op ys) = foldW op (xs ++ ys) := by
  show binW op (foldW op xs) (foldW op ys) = (xs ++ ys).foldl (binW op) (neuW op)
  rw [List.foldl_append]
  exact (fold_from h ys (fold_w (neu_w op) hx) hy).symm
theorem fold_perm {op : List Nat} (h : op ∈ FOLDS) {xs ys : List Int} (p : xs.Perm ys) : ∀ {x : Int}, xs.foldl (binW op) x = ys.foldl (binW op) x := by
  induction p with
  | nil => intro x; rfl
  | cons a _ ih => intro x; exact ih
  | swap a b l =>
    intro x
    show l.foldl (binW op) (binW op (binW op x b) a) = l.foldl (binW op) (binW op (binW op x a) b)
    rw [bin_assoc h, bin_assoc h, bin_comm h b a]
  | trans _ _ ih1 ih2 => intro x; rw [ih1, ih2]
theorem div_rem {a b : Int} (ha : isW a) : binW t_add (binW t_mul b (binW t_div a b)) (binW t_rem a b) = if b ≠ 0 then a else 0 := by
  show wrapW (wrapW (b * wrapW (divW a b)) + wrapW (if b = 0 then 0 else a - divW a b * b)) = _
  by_cases hb : b = 0
  · subst hb
    rw [if_pos rfl, if_neg (by simp), Int.zero_mul]
    decide
  · rw [if_neg hb, if_pos hb]
    have h1 := wrap_mod (b * wrapW (divW a b))
    have h2 := wrap_mod (a - divW a b * b)
    have h3 : b * wrapW (divW a b) % 4294967296 = b * divW a b % 4294967296 := by
      rw [Int.mul_emod, wrap_mod, ← Int.mul_emod]
    have h4 : b * divW a b = divW a b * b := Int.mul_comm _ _
    rw [← wrap_id ha]
    rw [wrap_iff, wrap_id ha]
    rw [h4] at h3
    generalize divW a b * b = q at *
    omega
theorem pow_small {k : Nat} (hk : k < 32) : (0 : Int) < 2 ^ k ∧ (2 : Int) ^ k < 1000000000000 := by
  have h1 : (2 : Nat) ^ k ≤ 2 ^ 31 := Nat.pow_le_pow_right (by decide) (by omega)
  have h2 : (2 : Int) ^ k = ((2 ^ k : Nat) : Int) := by rw [Int.natCast_pow]; rfl
  have h3 : (2 : Nat) ^ 31 = 2147483648 := by decide
  have h4 : 0 < (2 : Nat) ^ k := Nat.pow_pos (by decide)
  rw [h2]
  omega
end Wd

set_option Elab.async false
set_option linter.all false
set_option maxRecDepth 100000
/-! SxLaw: what every law begins with: the stream of draws. -/
namespace Sx
section
variable {h : Hv} {v : Val}
@[simp] theorem gSub'_app {fo fi : SE} {sv : Env} : gSub' fo fi v sv h = (fo sv h).bind fun o h1 => (fi sv h1).bind fun i h2 => (cSet o i v h2).bind fun _ h3 => .ok sv h3 := rfl
/-! by the cell -/
def cellAt (h : Hv) (n : Nat) : Option Cell := h[n]?
theorem cellAt_of {n : Nat} {c : Cell} (e : h[n]? = some c) : cellAt h n = some c := e
theorem cellAt_lt {n : Nat} {c : Cell} (e : cellAt h n = some c) : n < h.length := (List.getElem?_eq_some_iff.mp e).1
@[simp] theorem cellAt_self {n : Nat} {c : Cell} : cellAt (h.set n c) n = if n < h.length then some c else none := by
  unfold cellAt
  split
  · rw [List.getElem?_set_self (by assumption)]
  · rw [List.getElem?_eq_none (by rw [List.length_set]; omega)]
theorem cellAt_ne {n m : Nat} {c : Cell} (e : m ≠ n) : cellAt (h.set m c) n = cellAt h n := by unfold cellAt; rw [List.getElem?_set_ne e]
@[simp] theorem cellAt_new {c : Cell} : cellAt (h ++ [c]) h.length = some c := by unfold cellAt; simp
theorem cellAt_old {n : Nat} {c : Cell} (e : n < h.length) : cellAt (h ++ [c]) n = cellAt h n := by unfold cellAt; rw [List.getElem?_append_left e]
@[simp] theorem cellAt_0 {c : Cell} : cellAt (c :: h) 0 = some c := rfl
@[simp] theorem cellAt_s {c : Cell} {n : Nat} : cellAt (c :: h) (n + 1) = cellAt h n := rfl
def lstK? {α : Type} (g : List Val → Hv → R α) : Option Cell → Hv → R α
  | some (.lst vs), h => g vs h
  | _, _ => .bad
@[simp] theorem lstK?_lst {α : Type} {g : List Val → Hv → R α} {vs : List Val} : lstK? g (some (.lst vs)) h = g vs h := rfl
@[simp] theorem gIx_ref' {n : Nat} {i : Int} : gIx (.ref n) (.int i) h = lstK? (fun vs h => ixK vs i h) (cellAt h n) h := by
  unfold gIx Val.items lstK?
  unfold cellAt
  simp only
  generalize h[n]? = z
  cases z with
  | none => rfl
  | some c => cases c <;> rfl
def setK (n : Nat) (i : Int) (v : Val) (vs : List Val) (h : Hv) : R Val := match ixv vs i with
  | some _ => .ok .non (h.set n (.lst (vs.set (if 0 ≤ i then i.toNat else (i + vs.length).toNat) v)))
  | none => .bad
@[simp] theorem cSet_ref {n : Nat} {i : Int} : cSet (.ref n) (.int i) v h = lstK? (setK n i v) (cellAt h n) h := by
  unfold cSet onCell lstK? setK
  unfold cellAt
  simp only
  generalize h[n]? = z
  cases z with
  | none => rfl
  | some c =>
    cases c with
    | dead => rfl
    | lst vs => simp only; cases ixv vs i <;> rfl
theorem setK_of {n : Nat} {i : Int} {vs : List Val} (h0 : 0 ≤ i) (h1 : i.toNat < vs.length) : setK n i v vs h = .ok .non (h.set n (.lst (vs.set i.toNat v))) := by
  have hi : ixv vs i = some vs[i.toNat] := by unfold ixv; rw [if_pos h0, List.getElem?_eq_getElem h1]
  unfold setK
  rw [hi, if_pos h0]
@[simp] theorem setK_0 {n : Nat} {a : Val} {vs : List Val} : setK n 0 v (a :: vs) h = .ok .non (h.set n (.lst (v :: vs))) := setK_of (by decide) (by simp)
@[simp] theorem setK_1 {n : Nat} {a b : Val} {vs : List Val} : setK n 1 v (a :: b :: vs) h = .ok .non (h.set n (.lst (a :: v :: vs))) := setK_of (by decide) (by simp)
@[simp] theorem setK_2 {n : Nat} {a b c : Val} {vs : List Val} : setK n 2 v (a :: b :: c :: vs) h = .ok .non (h.set n (.lst (a :: b :: v :: vs))) := setK_of (by decide) (by simp)
@[simp] theorem setK_3 {n : Nat} {a b c d : Val} {vs : List Val} : setK n 3 v (a :: b :: c :: d :: vs) h = .ok .non (h.set n (.lst (a :: b :: c :: v :: vs))) := setK_of (by decide) (by simp)
@[simp] theorem sMeth_app {g : Val → List Val → Hv → R Val} {fo : SE} {fs : SA} {sv : Env} : sMeth g fo fs sv h = (fo sv h).bind fun v h1 => if v.isL h1 = true then (fs sv h1).bind (g v) else .bad :=
  bind_congr fun v h1 => rfl
@[simp] theorem sMeth0_app {g : Val → List Val → Hv → R Val} {fo : SE} {sv : Env} : sMeth0 g fo sv h = (fo sv h).bind fun v h1 => if v.isL h1 = true then g v [] h1 else .bad := rfl
def isL? : Option Cell → Bool
  | some (.lst _) => true
  | _ => false
@[simp] theorem isL?_lst {vs : List Val} : isL? (some (.lst vs)) = true := rfl
@[simp] theorem isL_ref {n : Nat} : (Val.ref n).isL h = isL? (cellAt h n) := by
  show (match h[n]? with
    | some (.lst _) => true
    | _ => false) = isL? h[n]?
  generalize h[n]? = z
  cases z with
  | none => rfl
  | some c => cases c <;> rfl
@[simp] theorem isL_fl {vs : List Val} : (Val.fl vs).isL h = true := rfl
@[simp] theorem isL_kl {vs : List Val} : (Val.kl vs).isL h = true := rfl
theorem onCell_ref {g : List Val → Hv → R (Val × List Val)} {n : Nat} : onCell g (.ref n) h = lstK? (fun vs h => (g vs h).bind fun p h1 => .ok p.1 (h1.set n (.lst p.2))) (cellAt h n) h := by
  unfold onCell lstK?
  unfold cellAt
  simp only
  generalize h[n]? = z
  cases z with
  | none => rfl
  | some c => cases c <;> rfl
def appK (n : Nat) (y : Val) (vs : List Val) (h : Hv) : R Val := if vs.length < 16777216 then .ok .non (h.set n (.lst (vs ++ [y]))) else .bad
@[simp] theorem mAppend_ref {n : Nat} {y : Val} : mAppend (.ref n) [y] h = lstK? (appK n y) (cellAt h n) h := by
  show onCell (lApp y) (.ref n) h = _
  rw [onCell_ref]
  congr 1
  funext vs h
  unfold lApp appK
  split <;> rfl
def extK (n : Nat) (ys : List Val) (vs : List Val) (h : Hv) : R Val := if vs.length + ys.length ≤ 16777216 then .ok .non (h.set n (.lst (vs ++ ys))) else .bad
@[simp] theorem mExtend_ref {n : Nat} {ys : List Val} : mExtend (.ref n) [.fl ys] h = lstK? (extK n ys) (cellAt h n) h := by
  show onCell (lExt ys) (.ref n) h = _
  rw [onCell_ref]
  congr 1
  funext vs h
  unfold lExt extK
  split <;> rfl
theorem appK_of {n : Nat} {vs : List Val} (hl : vs.length < 16777216) : appK n v vs h = .ok .non (h.set n (.lst (vs ++ [v]))) := by
  unfold appK
  rw [if_pos hl]
theorem set_new {c d : Cell} : (h ++ [c]).set h.length d = h ++ [d] := by rw [List.set_append_right _ _ (Nat.le_refl _)]; simp
def popK (n : Nat) (vs : List Val) (h : Hv) : R Val := match vs.getLast? with
  | some y => .ok y (h.set n (.lst vs.dropLast))
  | none => .bad
@[simp] theorem mPop_ref {n : Nat} : mPop (.ref n) [] h = lstK? (popK n) (cellAt h n) h := by
  show onCell lPop (.ref n) h = _
  rw [onCell_ref]
  congr 1
  funext vs h
  unfold lPop popK
  cases vs.getLast? <;> rfl
def popAtK (n : Nat) (k : Int) (vs : List Val) (h : Hv) : R Val := if -4611686018427387904 ≤ k ∧ k < 4611686018427387904 then (match ixv vs k with
    | some y => .ok y (h.set n (.lst (vs.eraseIdx (if 0 ≤ k then k.toNat else (k + vs.length).toNat))))
    | none => .bad) else .bad
@[simp] theorem mPopAt_ref {n : Nat} {k : Int} : mPop (.ref n) [.int k] h = lstK? (popAtK n k) (cellAt h n) h := by
  show onCell (lPopAt k) (.ref n) h = _
  rw [onCell_ref]
  congr 1
  funext vs h
  unfold lPopAt popAtK
  split
  · cases ixv vs k <;> rfl
  · rfl
theorem popAtK_nat {n k : Nat} {y : Val} {vs : List Val} (hy : vs[k]? = some y) (hk : k < 4611686018427387904) : popAtK n k vs h = .ok y (h.set n (.lst (vs.eraseIdx k))) := by
  have hi : ixv vs (k : Int) = some y := by unfold ixv; rw [if_pos (by omega)]; simpa using hy
  unfold popAtK
  simp only [hi, if_pos (show -4611686018427387904 ≤ (k : Int) ∧ (k : Int) < 4611686018427387904 by omega), if_pos (show (0 : Int) ≤ k by omega), Int.toNat_natCast]
@[simp] theorem truK_ref {n : Nat} : truK (.ref n) h = lstK? (fun vs h => .ok (!vs.isEmpty) h) (cellAt h n) h := by
  unfold truK truB lstK?
  unfold cellAt
  simp only
  generalize h[n]? = z
  cases z with
  | none => rfl
  | some c => cases c <;> rfl
@[simp] theorem cLen_ref {n : Nat} : cLen [.ref n] h = lstK? (fun vs h => .ok (.int vs.length) h) (cellAt h n) h := by
  show gItems _ (.ref n) h = _
  unfold gItems Val.items lstK?
  unfold cellAt
  simp only
  generalize h[n]? = z
  cases z with
  | none => rfl
  | some c => cases c <;> rfl
@[simp] theorem frz_ref {n : Nat} : frz (.ref n) h = lstK? (fun vs h => .ok (.fl vs) (h.set n .dead)) (cellAt h n) h := by
  unfold frz lstK?
  unfold cellAt
  simp only
  generalize h[n]? = z
  cases z with
  | none => rfl
  | some c => cases c <;> rfl
end
end Sx
namespace Lw
open Sx Wd
def iV (xs : List Int) : List Val := xs.map Val.int
@[simp] theorem iV_len (xs : List Int) : (iV xs).length = xs.length := by simp [iV]
theorem iV_get {xs : List Int} {i : Nat} (h : i < xs.length) : (iV xs)[i]? = some (.int xs[i]) := by simp [iV, h]
theorem ltl_iV (n : Nat) : ∀ xs : List Int, Val.lt.ltl n (iV xs) = true
  | [] => rfl
  | x :: xs => by show (true && Val.lt.ltl n (iV xs)) = true; rw [ltl_iV n xs]; rfl
def sV (xs : List (List Nat)) : List Val := xs.map Val.str
@[simp] theorem sV_len (xs : List (List Nat)) : (sV xs).length = xs.length := by simp [sV]
theorem sV_get {xs : List (List Nat)} {i : Nat} (h : i < xs.length) : (sV xs)[i]? = some (.str xs[i]) := by simp [sV, h]
theorem shp_strs : ∀ xs : List (List Nat), (∀ x ∈ xs, PySem.PyData.strOk (Str.ofL x) = true) → Val.noRefs (sV xs) = true ∧ PySem.PyData.canLayAll0 (Val.pds (sV xs)) = true ∧ PySem.PyData.depthAll (Val.pds (sV xs)) ≤ 1
  | [], _ => ⟨rfl, rfl, by decide⟩
  | x :: xs, hx => by
    obtain ⟨h1, h2, h3⟩ := shp_strs xs fun y hy => hx y (List.mem_cons_of_mem _ hy)
    have h0 := hx x List.mem_cons_self
    refine ⟨?_, ?_, ?_⟩
    · show (true && Val.noRefs (sV xs)) = true
      rw [h1]; rfl
    · show PySem.PyData.canLayAll0 (.str (Str.ofL x) :: Val.pds (sV xs)) = true
      simp [PySem.PyData.canLayAll0, PySem.PyData.canLay0, h0, h2]
    · show PySem.PyData.depthAll (.str (Str.ofL x) :: Val.pds (sV xs)) ≤ 1
      simp [PySem.PyData.depthAll, PySem.PyData.depth]
      omega
theorem cmp_strs {xs : List (List Nat)} (hx : ∀ x ∈ xs, PySem.PyData.strOk (Str.ofL x) = true) : (Val.fl (sV xs)).cmpOk = true := by
  obtain ⟨h1, h2, h3⟩ := shp_strs xs hx
  show (Val.noRefs (sV xs) && (PySem.PyData.canLayAll0 (Val.pds (sV xs)) && decide ((PySem.PyData.list (Val.pds (sV xs))).depth ≤ 64))) = true
  rw [h1, h2]
  simp [PySem.PyData.depth]
  omega
/-- the stream of draws -/
structure Strm where
  xs : List Int
  a : Int
  b : Nat
  c : Int
def Strm.ok (S : Strm) : Prop := 0 ≤ S.a ∧ S.b ≤ S.xs.length ∧ 0 ≤ S.c ∧ S.c < 2147483647 ∧ S.xs.length ≤ 63
instance (S : Strm) : Decidable S.ok := inferInstanceAs (Decidable (_ ∧ _))
def strmL (S : Strm) : List Val := [.fl (iV S.xs), .int S.a, .int S.b, .int S.c]
def strmC (S : Strm) : Cell := .lst (strmL S)
theorem strm_lt (S : Strm) (n : Nat) : (strmC S).lt n = true := by
  show (Val.lt.ltl n (iV S.xs) && _) = true
  rw [ltl_iV]; rfl
def absI (x : Int) : Int := if x < 0 then -x else x
def fillS (S : Strm) : Strm := if S.a = 0 ∧ S.b < S.xs.length then { S with a := absI (S.xs.getD S.b 0), b := S.b + 1 } else S
def drawV (S : Strm) (n : Int) : Int := if (fillS S).a = 0 then ((fillS S).c * 48271 + 11) % 2147483647 / 97 % n else (fillS S).a % n
def drawS (S : Strm) (n : Int) : Strm := if (fillS S).a = 0 then { fillS S with c := ((fillS S).c * 48271 + 11) % 2147483647 } else { fillS S with a := (fillS S).a / n }
theorem fill_ok {S : Strm} (h : S.ok) : (fillS S).ok := by
  unfold fillS
  split
  · obtain ⟨h1, h2, h3, h4, h5⟩ := h
    refine ⟨?_, by show S.b + 1 ≤ S.xs.length; omega, h3, h4, h5⟩
    show 0 ≤ absI _
    unfold absI; split <;> omega
  · exact h
theorem draw_ok {S : Strm} {n : Int} (h : S.ok) (hn : 0 < n) : (drawS S n).ok := by
  obtain ⟨h1, h2, h3, h4, h5⟩ := fill_ok h
  unfold drawS
  split
  · exact ⟨h1, h2, by show 0 ≤ _ % (2147483647 : Int); omega, by show _ % (2147483647 : Int) < _; omega, h5⟩
  · exact ⟨Int.ediv_nonneg h1 (Int.le_of_lt hn), h2, h3, h4, h5⟩
theorem draw_lt {S : Strm} {n : Int} (hn : 0 < n) : 0 ≤ drawV S n ∧ drawV S n < n := by
  unfold drawV
  split
  · exact ⟨Int.emod_nonneg _ (by omega), Int.emod_lt_of_pos _ hn⟩
  · exact ⟨Int.emod_nonneg _ (by omega), Int.emod_lt_of_pos _ hn⟩
theorem draw_nat {S : Strm} {n : Int} (hn : 0 < n) : ∃ k : Nat, drawV S n = k ∧ (k : Int) < n := ⟨(drawV S n).toNat, by have := draw_lt (S := S) hn; omega, by have := draw_lt (S := S) hn; omega⟩
theorem draw_xs (S : Strm) (n : Int) : (drawS S n).xs = S.xs := by unfold drawS fillS; split <;> split <;> rfl
/-- the stream that a cell is -/
def strmAt (h : Hv) (i : Nat) (S : Strm) : Prop := cellAt h i = some (strmC S) ∧ S.ok
theorem strm_set {h : Hv} {i : Nat} {S S' : Strm} (e : strmAt h i S) (k : S'.ok) : strmAt (h.set i (strmC S')) i S' := by
  have hl : i < h.length := cellAt_lt e.1
  exact ⟨by rw [cellAt_self, if_pos hl], k⟩
def unI : Val → Option Int
  | .int i => some i
  | _ => none
def unIs : List Val → Option (List Int)
  | [] => some []
  | v :: vs => (unI v).bind fun i => (unIs vs).map (i :: ·)
theorem unIs_iV : ∀ xs : List Int, unIs (iV xs) = some xs
  | [] => rfl
  | x :: xs => by
    show ((unI (.int x)).bind fun i => (unIs (iV xs)).map (i :: ·)) = _
    rw [unIs_iV xs]; rfl
theorem unIs_of : ∀ {vs : List Val} {xs : List Int}, unIs vs = some xs → vs = iV xs
  | [], _, h => by cases h; rfl
  | v :: vs, _, h => by
    unfold unIs at h
    cases v with
    | int i =>
      cases e : unIs vs with
      | none => simp [unI, e] at h
      | some ys =>
        simp only [unI, e, Option.bind_some, Option.map_some, Option.some.injEq] at h
        subst h
        rw [unIs_of e]; rfl
    | _ => simp [unI] at h
def unStrm : List Val → Option Strm
  | a :: b :: c :: d :: [] => (match a, b, c, d with
    | .fl vs, .int a, .int b, .int c => (unIs vs).bind fun xs => if 0 ≤ b then some ⟨xs, a, b.toNat, c⟩ else none
    | _, _, _, _ => none)
  | _ => none
def strm? : Option Cell → Option Strm
  | some (.lst vs) => unStrm vs
  | _ => none
theorem strm?_of {S : Strm} : strm? (some (strmC S)) = some S := by
  show (unIs (iV S.xs)).bind _ = _
  rw [unIs_iV]
  simp
theorem strm?_at {h : Hv} {i : Nat} {S : Strm} (e : strmAt h i S) : strm? (cellAt h i) = some S := by rw [e.1, strm?_of]
theorem of_strm? {o : Option Cell} {S : Strm} (h : strm? o = some S) : o = some (strmC S) := by
  cases o with
  | none => cases h
  | some c =>
    cases c with
    | dead => cases h
    | lst vs =>
      have h : unStrm vs = some S := h
      match vs, h with
      | [], h => cases h
      | [_], h => cases h
      | [_, _], h => cases h
      | [_, _, _], h => cases h
      | [a, b, c, d], h =>
        cases a with
        | fl vs =>
          cases b with
          | int a =>
            cases c with
            | int b =>
              cases d with
              | int c =>
                have h : ((unIs vs).bind fun xs => if 0 ≤ b then some (⟨xs, a, b.toNat, c⟩ : Strm) else none) = some S := h
                cases e : unIs vs with
                | none => rw [e] at h; cases h
                | some xs =>
                  rw [e] at h
                  simp only [Option.bind_some] at h
                  by_cases hb : 0 ≤ b
                  · rw [if_pos hb] at h
                    cases h
                    rw [unIs_of e]
                    show some (Cell.lst [.fl (iV xs), .int a, .int b, .int c]) = some (Cell.lst [.fl (iV xs), .int a, .int (b.toNat : Int), .int c])
                    rw [Int.toNat_of_nonneg hb]
                  · rw [if_neg hb] at h; cases h
              | _ => cases h
            | _ => cases h
          | _ => cases h
        | _ => cases h
      | _ :: _ :: _ :: _ :: _ :: _, h => cases h
end Lw

set_option Elab.async false
set_option linter.all false
set_option maxRecDepth 100000
/-! SxTs: texts, step by step. -/
namespace Sx
section
variable {sv : Env} {h : Hv} {o a : SE}
@[simp] theorem gInT_str {c : Nat} {z : List Nat} : gInT (.str [c]) (.str z) h = .ok (.bl (decide (c ∈ z))) h := rfl
@[simp] theorem gNotInT_str {c : Nat} {z : List Nat} : gNotInT (.str [c]) (.str z) h = .ok (.bl (!decide (c ∈ z))) h := rfl
@[simp] theorem gInT_fl {x : Val} {vs : List Val} : gInT x (.fl vs) h = if x.flat = true ∧ vs.all Val.flat = true then .ok (.bl (vs.any fun u => Val.eq u x)) h else .bad := rfl
@[simp] theorem gInT_tup {x : Val} {vs : List Val} : gInT x (.tup vs) h = if x.flat = true ∧ vs.all Val.flat = true then .ok (.bl (vs.any fun u => Val.eq u x)) h else .bad := rfl
@[simp] theorem gNotInT_fl {x : Val} {vs : List Val} : gNotInT x (.fl vs) h = if x.flat = true ∧ vs.all Val.flat = true then .ok (.bl (!vs.any fun u => Val.eq u x)) h else .bad := rfl
@[simp] theorem gNotInT_tup {x : Val} {vs : List Val} : gNotInT x (.tup vs) h = if x.flat = true ∧ vs.all Val.flat = true then .ok (.bl (!vs.any fun u => Val.eq u x)) h else .bad := rfl
@[simp] theorem isS_str {x : List Nat} : (Val.str x).isS = true := rfl
@[simp] theorem sSM0_app {g : Val → List Val → Hv → R Val} : sSM0 g o sv h = (o sv h).bind fun v h1 => if v.isS = true then g v [] h1 else .bad := rfl
@[simp] theorem sSM1_app {g : Val → List Val → Hv → R Val} : sSM1 g o a sv h = (o sv h).bind fun v h1 => if v.isS = true then (a sv h1).bind fun u h2 => g v [u] h2 else .bad := rfl
theorem mStrip_of {x y : List Nat} (hx : x.length ≤ 16777216) : mStrip (.str x) [.str y] h = .ok (.str (stripF x y)) h := if_pos hx
@[simp] theorem mUpper_str {x : List Nat} : mUpper (.str x) [] h = if x.all (fun c => decide (c < 128)) = true ∧ x.length ≤ 5592405 then .ok (.str (x.map PyProof.Rows.up1)) h else .bad := rfl
@[simp] theorem mSplit_str {x y : List Nat} : mSplit (.str x) [.str y] h = if y ≠ [] ∧ y.all (fun c => decide (c < 256)) = true ∧ x.length + 2 ≤ 16777216 then .ok (.fl ((TL.spl y 0 [] x).map Val.str)) h else .bad := rfl
theorem gIx_str {x : List Nat} {k : Nat} {c : Nat} (hx : x.length ≤ 16777216) (hc : x[k]? = some c) : gIx (.str x) (.int k) h = .ok (.str [c]) h := by
  show (if x.length ≤ 16777216 then (match ixv x (k : Int) with | some c => R.ok (Val.str [c]) h | none => .bad) else .bad) = _
  rw [if_pos hx]
  have e : ixv x (k : Int) = some c := by unfold ixv; rw [if_pos (by omega)]; simpa using hc
  rw [e]
theorem gSl_str {x : List Nat} {i j : Nat} (hx : x.length ≤ 16777216) (hi : i ≤ x.length) (hj : i ≤ j) : gSl (.str x) (some (i : Int)) (some (j : Int)) h = .ok (.str ((x.drop i).take (j - i))) h := by
  show (if x.length ≤ 16777216 then R.ok (Val.str (cutL x (some (i : Int)) (some (j : Int)))) h else .bad) = _
  rw [if_pos hx]
  unfold cutL
  rw [slB_nat, slB_nat, Nat.min_eq_left hi]
  have e : (x.drop i).take (min j x.length - i) = (x.drop i).take (j - i) := by
    by_cases hl : j ≤ x.length
    · rw [Nat.min_eq_left hl]
    · rw [Nat.min_eq_right (by omega), List.take_of_length_le (by rw [List.length_drop]; exact Nat.le_refl _), List.take_of_length_le (by rw [List.length_drop]; omega)]
  rw [e]
theorem gSl_strn {x : List Nat} {i n : Nat} (hx : x.length ≤ 16777216) (hi : i ≤ x.length) : gSl (.str x) (some (i : Int)) (some ((i : Int) + (n : Int))) h = .ok (.str ((x.drop i).take n)) h := by
  have e : ((i : Int) + (n : Int)) = ((i + n : Nat) : Int) := by omega
  rw [e, gSl_str hx hi (by omega), Nat.add_sub_cancel_left]
@[simp] theorem gAdd_strs {x y : List Nat} : gAdd (.str x) (.str y) h = if x.length + y.length ≤ 16777216 then .ok (.str (x ++ y)) h else .bad := rfl
theorem strip_len (x y : List Nat) : (stripF x y).length ≤ x.length := by
  have e := PyProof.Rows.len_stripChars (Str.ofL x) (Str.ofL y)
  have e1 : (PySem.Txt.stripChars (Str.ofL x) (Str.ofL y)).length = (stripF x y).length := by
    show (PySem.Txt.stripChars (Str.ofL x) (Str.ofL y)).cps.size = _
    rw [← Array.length_toList]; rfl
  rw [e1, len_ofL] at e
  exact e
theorem gAdd_str {x y : List Nat} (hl : x.length + y.length ≤ 16777216) : gAdd (.str x) (.str y) h = .ok (.str (x ++ y)) h := if_pos hl
theorem truK_str {x : List Nat} (hx : x.length ≤ 16777216) : truK (.str x) h = .ok (!x.isEmpty) h := by
  show (match (if x.length ≤ 16777216 then some (!x.isEmpty) else none) with | some b => R.ok b h | none => .bad) = _
  rw [if_pos hx]
theorem cLen_of {x : List Nat} (hx : x.length ≤ 16777216) : cLen [.str x] h = .ok (.int x.length) h := by rw [cLen_str, if_pos hx]
end
end Sx
namespace Lw
open Sx
theorem flat_sV : ∀ xs : List (List Nat), (sV xs).all Val.flat = true
  | [] => rfl
  | x :: xs => by show (true && (sV xs).all Val.flat) = true; rw [flat_sV xs]; rfl
theorem any_sV {x : List Nat} : ∀ xs : List (List Nat), ((sV xs).any fun u => Val.eq u (.str x)) = decide (x ∈ xs)
  | [] => by simp [sV]
  | y :: ys => by
    show (Val.eq (.str y) (.str x) || (sV ys).any fun u => Val.eq u (.str x)) = _
    rw [any_sV ys, veq_str]
    by_cases h : y = x
    · subst h; simp
    · simp [h, Ne.symm h]
theorem in_sVt {x : List Nat} {xs : List (List Nat)} {h : Hv} : gInT (.str x) (.tup (sV xs)) h = .ok (.bl (decide (x ∈ xs))) h := by rw [gInT_tup, if_pos ⟨rfl, flat_sV xs⟩, any_sV]
theorem in_sVf {x : List Nat} {xs : List (List Nat)} {h : Hv} : gInT (.str x) (.fl (sV xs)) h = .ok (.bl (decide (x ∈ xs))) h := by rw [gInT_fl, if_pos ⟨rfl, flat_sV xs⟩, any_sV]
end Lw

set_option Elab.async false
set_option linter.all false
set_option maxRecDepth 100000
set_option maxHeartbeats 4000000
namespace Lw
open Sx Wd

def c_SMALL : Val := .str [97, 98, 99, 100, 101, 102, 103, 104, 105, 106, 107, 108, 109, 110, 111, 112, 113, 114, 115, 116, 117, 118, 119, 120, 121, 122]
def c_DIGITS : Val := .str [48, 49, 50, 51, 52, 53, 54, 55, 56, 57]
def c_MOST_NAME : Val := .int 12
def c_MOST_DIGITS : Val := .int 10
def c_CAPITALS : Val := .str [65, 66, 67, 68, 69, 70, 71, 72, 73, 74, 75, 76, 77, 78, 79, 80, 81, 82, 83, 84, 85, 86, 87, 88, 89, 90]
def c_KEYS : Val := .tup [.str [75, 69, 82, 78, 69, 76], .str [73, 78, 84], .str [66, 85, 70, 70, 69, 82], .str [83, 72, 65, 82, 69, 68], .str [76, 69, 84], .str [65, 84, 79, 77, 73, 67], .str [73, 70], .str [69, 76, 83, 69], .str [87, 72, 73, 76, 69], .str [66, 82, 69, 65, 75], .str [67, 79, 78, 84, 73, 78, 85, 69], .str [82, 69, 84, 85, 82, 78], .str [66, 65, 82, 82, 73, 69, 82], .str [67, 79, 76, 76, 69, 67, 84], .str [80, 73, 67, 75], .str [65, 68, 68], .str [77, 73, 78], .str [77, 65, 88], .str [82, 69, 77], .str [65, 78, 68], .str [79, 82], .str [88, 79, 82], .str [84, 73, 68], .str [66, 73, 68], .str [68, 73, 77], .str [71, 82, 73, 68]]
def c_SYMBOLS : Val := .tup [.str [60, 60], .str [62, 62], .str [60, 61], .str [61, 61], .str [33, 61], .str [40], .str [41], .str [123], .str [125], .str [91], .str [93], .str [44], .str [59], .str [61], .str [43], .str [45], .str [42], .str [47], .str [38], .str [124], .str [94], .str [60], .str [126], .str [33]]
/-! ### _law_stream -/
def M_law_stream_1 : SS := (sSet 1 (sBin gMod (sCall cInt (sCons (sBin gAdd (sBin gAdd (sBin gMul (sVar 1) (sC (.int 48271))) (sBin gMod (sCall cInt (sCons (sVar 2) sNil)) (sC (.int 65521)))) (sC (.int 1))) sNil)) (sC (.int 2147483647))))
def M_law_stream_b : SS := (sSeq (sSet 1 (sC (.int 17))) (sSeq (sFor (iVal (sVar 0)) (gNm 2) M_law_stream_1) (sRet (sLstN (sCons (sCall cList (sCons (sVar 0) sNil)) (sCons (sC (.int 0)) (sCons (sC (.int 0)) (sCons (sVar 1) sNil))))))))
def M_law_stream : SF := sFn 1 3 M_law_stream_b
def mixV (xs : List Int) : Int := xs.foldl (fun m x => (m * 48271 + x % 65521 + 1) % 2147483647) 17
def newS (xs : List Int) : Strm := ⟨xs, 0, 0, mixV xs⟩
theorem mix_lt : ∀ (xs : List Int) (m : Int), 0 ≤ m ∧ m < 2147483647 → 0 ≤ xs.foldl (fun m x => (m * 48271 + x % 65521 + 1) % 2147483647) m ∧ xs.foldl (fun m x => (m * 48271 + x % 65521 + 1) % 2147483647) m < 2147483647
  | [], _, h => h
  | x :: xs, m, _ => by
    rw [List.foldl_cons]
    refine mix_lt xs _ ?_
    show 0 ≤ (m * 48271 + x % 65521 + 1) % 2147483647 ∧ (m * 48271 + x % 65521 + 1) % 2147483647 < 2147483647
    omega
theorem newS_ok {xs : List Int} (h : xs.length ≤ 63) : (newS xs).ok := ⟨by show (0 : Int) ≤ 0; decide, Nat.zero_le _, (mix_lt xs 17 (by decide)).1, (mix_lt xs 17 (by decide)).2, h⟩
def G_law_stream : SF := fun us h => match us with
  | [.kl vs] => (match unIs vs with
    | some xs => if xs.length ≤ 63 then .ok (.ref h.length) (h ++ [strmC (newS xs)]) else .bad
    | none => .bad)
  | _ => .bad
theorem stream_loop {x0 : Option Val} {h : Hv} : ∀ (xs : List Int) (m : Int) (c : Option Val), ∃ c', sForL (gNm 2) M_law_stream_1 (iV xs) [x0, some (.int m), c] h = .ok (.nx [x0, some (.int (xs.foldl (fun m x => (m * 48271 + x % 65521 + 1) % 2147483647) m)), c']) h
  | [], m, c => ⟨c, rfl⟩
  | x :: xs, m, c => by
    obtain ⟨c', e⟩ := stream_loop (x0 := x0) (h := h) xs ((m * 48271 + x % 65521 + 1) % 2147483647) (some (.int x))
    refine ⟨c', ?_⟩
    show sForL (gNm 2) M_law_stream_1 (.int x :: iV xs) _ h = _
    rw [sForL_cons]
    have st : M_law_stream_1 [x0, some (.int m), some (.int x)] h = .ok (.nx [x0, some (.int ((m * 48271 + x % 65521 + 1) % 2147483647)), some (.int x)]) h := by
      simp [M_law_stream_1]
    rw [gNm_app, bind_ok]
    simp only [List.set_cons_succ, List.set_cons_zero]
    rw [st, bind_ok]
    exact e
theorem le_law_stream : ∀ us h, G_law_stream us h = .bad ∨ M_law_stream us h = G_law_stream us h := by
  intro us h
  unfold G_law_stream
  split
  · rename_i vs
    cases e : unIs vs with
    | none => exact .inl rfl
    | some xs =>
      simp only
      split
      · right
        have ev := unIs_of e
        subst ev
        obtain ⟨c', el⟩ := stream_loop (x0 := some (.kl (iV xs))) (h := h) xs 17 none
        simp [M_law_stream, M_law_stream_b, List.replicate, el, lstNK, strmC, strmL, newS, mixV]
      · exact .inl rfl
  · exact .inl rfl
theorem stream_spec {h : Hv} {xs : List Int} (hl : xs.length ≤ 63) : G_law_stream [.kl (iV xs)] h = .ok (.ref h.length) (h ++ [strmC (newS xs)]) := by
  show (match unIs (iV xs) with
    | some xs => if xs.length ≤ 63 then R.ok (Val.ref h.length) (h ++ [strmC (newS xs)]) else .bad
    | none => .bad) = _
  rw [unIs_iV]
  exact if_pos hl
/-! ### _law_draw -/
def M_law_draw_b : SS := (sSeq (sIte (tAnd' (sTest (sBin gEq (sBin gIx (sVar 0) (sC (.int 1))) (sC (.int 0)))) (sTest (sBin gLt (sBin gIx (sVar 0) (sC (.int 2))) (sCall cLen (sCons (sBin gIx (sVar 0) (sC (.int 0))) sNil))))) (sSeq (sAsg (sCall cAbs (sCons (sCall cInt (sCons (sBin gIx (sBin gIx (sVar 0) (sC (.int 0))) (sBin gIx (sVar 0) (sC (.int 2)))) sNil)) sNil)) (gSub' (sVar 0) (sC (.int 1)))) (sAsg (sBin gAdd (sBin gIx (sVar 0) (sC (.int 2))) (sC (.int 1))) (gSub' (sVar 0) (sC (.int 2))))) sSkip) (sSeq (sIte (sTest (sBin gEq (sBin gIx (sVar 0) (sC (.int 1))) (sC (.int 0)))) (sSeq (sAsg (sBin gMod (sCall cInt (sCons (sBin gAdd (sBin gMul (sBin gIx (sVar 0) (sC (.int 3))) (sC (.int 48271))) (sC (.int 11))) sNil)) (sC (.int 2147483647))) (gSub' (sVar 0) (sC (.int 3)))) (sRet (sBin gMod (sCall cInt (sCons (sBin gDiv (sBin gIx (sVar 0) (sC (.int 3))) (sC (.int 97))) sNil)) (sVar 1)))) sSkip) (sSeq (sSet 2 (sBin gMod (sCall cInt (sCons (sBin gIx (sVar 0) (sC (.int 1))) sNil)) (sVar 1))) (sSeq (sAsg (sBin gDiv (sBin gIx (sVar 0) (sC (.int 1))) (sVar 1)) (gSub' (sVar 0) (sC (.int 1)))) (sRet (sVar 2))))))
def M_law_draw : SF := sFn 2 3 M_law_draw_b
def G_law_draw : SF := fun us h => match us with
  | [.ref i, .int n] => (match strm? (cellAt h i) with
    | some S => if S.ok ∧ 0 < n ∧ n < 1000000000000 then .ok (.int (drawV S n)) (h.set i (strmC (drawS S n))) else .bad
    | none => .bad)
  | _ => .bad
theorem draw_spec {h : Hv} {i : Nat} {n : Int} {S : Strm} (e : strmAt h i S) (h0 : 0 < n) (h1 : n < 1000000000000) : G_law_draw [.ref i, .int n] h = .ok (.int (drawV S n)) (h.set i (strmC (drawS S n))) := by
  show (match strm? (cellAt h i) with | some S => if S.ok ∧ 0 < n ∧ n < 1000000000000 then R.ok (Val.int (drawV S n)) (h.set i (strmC (drawS S n))) else .bad | none => .bad) = _
  rw [strm?_at e]
  exact if_pos ⟨e.2, h0, h1⟩
theorem m_law_draw {h : Hv} {i : Nat} {n : Int} {S : Strm} (e0 : cellAt h i = some (strmC S)) (ho : S.ok) (hn : 0 < n ∧ n < 1000000000000) : M_law_draw [.ref i, .int n] h = .ok (.int (drawV S n)) (h.set i (strmC (drawS S n))) := by
  have hl : i < h.length := cellAt_lt e0
  have e : cellAt h i = some (.lst [.fl (iV S.xs), .int S.a, .int S.b, .int S.c]) := e0
  obtain ⟨o1, o2, o3, o4, o5⟩ := ho
  by_cases hf : S.a = 0 ∧ S.b < S.xs.length
  · have ef : fillS S = { S with a := absI S.xs[S.b], b := S.b + 1 } := by
      unfold fillS; rw [if_pos hf]; simp [hf.2]
    have gx : (iV S.xs)[S.b]? = some (.int S.xs[S.b]) := iV_get hf.2
    have gx' : ixv (iV S.xs) (S.b : Int) = some (.int S.xs[S.b]) := by unfold ixv; rw [if_pos (by omega)]; simpa using gx
    have ha : (if S.xs[S.b] < 0 then -S.xs[S.b] else S.xs[S.b]) = absI S.xs[S.b] := rfl
    by_cases hz : absI S.xs[S.b] = 0
    · simp [M_law_draw, M_law_draw_b, e, hl, hf.1, hf.2, List.replicate, ixK_of gx', hn.1, hn.2, drawV, drawS, ef, strmC, strmL, ha, hz]
    · simp [M_law_draw, M_law_draw_b, e, hl, hf.1, hf.2, List.replicate, ixK_of gx', hn.1, hn.2, drawV, drawS, ef, strmC, strmL, ha, hz]
  · have ef : fillS S = S := by unfold fillS; rw [if_neg hf]
    by_cases hz : S.a = 0
    · have hb : ¬ S.b < S.xs.length := fun z => hf ⟨hz, z⟩
      simp [M_law_draw, M_law_draw_b, e, hl, hz, hb, List.replicate, hn.1, hn.2, drawV, drawS, ef, strmC, strmL]
    · simp [M_law_draw, M_law_draw_b, e, hl, hz, List.replicate, hn.1, hn.2, drawV, drawS, ef, strmC, strmL]
theorem le_law_draw : ∀ us h, G_law_draw us h = .bad ∨ M_law_draw us h = G_law_draw us h := by
  intro us h
  unfold G_law_draw
  split
  · rename_i i n
    cases e : strm? (cellAt h i) with
    | none => exact .inl rfl
    | some S =>
      simp only
      split
      · rename_i hh
        exact .inr (m_law_draw (of_strm? e) hh.1 hh.2)
      · exact .inl rfl
  · exact .inl rfl
/-! ### _law_pick -/
def M_law_pick_b : SS := (sRet (sBin gIx (sVar 1) (sCall (callF 2 G_law_draw) (sCons (sVar 0) (sCons (sCall cLen (sCons (sVar 1) sNil)) sNil)))))
def M_law_pick : SF := sFn 2 2 M_law_pick_b
def pickOf (n : Int) (vs : List Val) : Option Val := vs[n.toNat]?
def G_law_pick : SF := fun us h => match us with
  | [.ref i, .fl vs] => (match strm? (cellAt h i) with
    | some S => if S.ok ∧ 0 < vs.length ∧ vs.length < 1000000000000 then (match vs[(drawV S vs.length).toNat]? with
      | some v => .ok v (h.set i (strmC (drawS S vs.length)))
      | none => .bad) else .bad
    | none => .bad)
  | _ => .bad
theorem le_law_pick : ∀ us h, G_law_pick us h = .bad ∨ M_law_pick us h = G_law_pick us h := by
  intro us h
  unfold G_law_pick
  split
  · rename_i i vs
    cases e : strm? (cellAt h i) with
    | none => exact .inl rfl
    | some S =>
      simp only
      split
      · rename_i hh
        have d := draw_spec (h := h) (i := i) (n := vs.length) (S := S) ⟨of_strm? e, hh.1⟩ (by omega) (by omega)
        have dl := draw_lt (S := S) (n := vs.length) (by omega)
        have hk : (drawV S vs.length).toNat < vs.length := by omega
        rw [List.getElem?_eq_getElem hk]
        right
        have gx : ixv vs (drawV S vs.length) = some vs[(drawV S vs.length).toNat] := by unfold ixv; rw [if_pos (by omega), List.getElem?_eq_getElem hk]
        simp [M_law_pick, M_law_pick_b, List.replicate, d, ixK_of gx]
      · exact .inl rfl
  · exact .inl rfl
theorem G_law_pick_of {h : Hv} {i : Nat} {S : Strm} {vs : List Val} (e : strmAt h i S) (h0 : 0 < vs.length) (h1 : vs.length < 1000000000000) : ∃ (k : Nat) (hk : k < vs.length), G_law_pick [.ref i, .fl vs] h = .ok vs[k] (h.set i (strmC (drawS S vs.length))) := by
  have dl := draw_lt (S := S) (n := vs.length) (by omega)
  have hk : (drawV S vs.length).toNat < vs.length := by omega
  refine ⟨_, hk, ?_⟩
  show (match strm? (cellAt h i) with
    | some S => if S.ok ∧ 0 < vs.length ∧ vs.length < 1000000000000 then (match vs[(drawV S vs.length).toNat]? with
      | some v => R.ok v (h.set i (strmC (drawS S vs.length)))
      | none => .bad) else .bad
    | none => .bad) = _
  rw [strm?_at e]
  simp only
  rw [if_pos ⟨e.2, h0, h1⟩, List.getElem?_eq_getElem hk]
/-! ### _law_stretch -/
def M_law_stretch_1 : SS := (sSet 3 (sBin gAdd (sVar 3) (sC (.int 1))))
def M_law_stretch_b : SS := (sSeq (sSet 3 (sVar 1)) (sSeq (sWhile (tAnd' (sTest (sBin gLt (sVar 3) (sCall cLen (sCons (sVar 0) sNil)))) (sTest (sBin gInT (sBin gIx (sVar 0) (sVar 3)) (sVar 2)))) M_law_stretch_1 bigN) (sRet (sSl (sVar 0) (sPart (sVar 1)) (sPart (sVar 3))))))
def M_law_stretch : SF := sFn 3 4 M_law_stretch_b
def SMALLL : List Nat := [97, 98, 99, 100, 101, 102, 103, 104, 105, 106, 107, 108, 109, 110, 111, 112, 113, 114, 115, 116, 117, 118, 119, 120, 121, 122]
def DIGL : List Nat := [48, 49, 50, 51, 52, 53, 54, 55, 56, 57]
def CAPL : List Nat := [65, 66, 67, 68, 69, 70, 71, 72, 73, 74, 75, 76, 77, 78, 79, 80, 81, 82, 83, 84, 85, 86, 87, 88, 89, 90]
def KEYSL : List (List Nat) := [[75, 69, 82, 78, 69, 76], [73, 78, 84], [66, 85, 70, 70, 69, 82], [83, 72, 65, 82, 69, 68], [76, 69, 84], [65, 84, 79, 77, 73, 67], [73, 70], [69, 76, 83, 69], [87, 72, 73, 76, 69], [66, 82, 69, 65, 75], [67, 79, 78, 84, 73, 78, 85, 69], [82, 69, 84, 85, 82, 78], [66, 65, 82, 82, 73, 69, 82], [67, 79, 76, 76, 69, 67, 84], [80, 73, 67, 75], [65, 68, 68], [77, 73, 78], [77, 65, 88], [82, 69, 77], [65, 78, 68], [79, 82], [88, 79, 82], [84, 73, 68], [66, 73, 68], [68, 73, 77], [71, 82, 73, 68]]
def TWO : List (List Nat) := [[60, 60], [62, 62], [60, 61], [61, 61], [33, 61]]
def ONE : List (List Nat) := [[40], [41], [123], [125], [91], [93], [44], [59], [61], [43], [45], [42], [47], [38], [124], [94], [60], [126], [33]]
def LAWL : List (List Nat) := [[40], [41], [123], [125], [91], [93], [44], [59], [61], [43], [45], [42], [47], [38], [124], [94], [60, 60], [62, 62], [60], [60, 61], [61, 61], [33, 61], [126], [33]]
def KTXT : List Nat := [75, 69, 82, 78, 69, 76, 32, 73, 78, 84, 32, 66, 85, 70, 70, 69, 82, 32, 83, 72, 65, 82, 69, 68, 32, 76, 69, 84, 32, 65, 84, 79, 77, 73, 67, 32, 73, 70, 32, 69, 76, 83, 69, 32, 87, 72, 73, 76, 69, 32, 66, 82, 69, 65, 75, 32, 67, 79, 78, 84, 73, 78, 85, 69, 32, 82, 69, 84, 85, 82, 78, 32, 66, 65, 82, 82, 73, 69, 82, 32, 67, 79, 76, 76, 69, 67, 84, 32, 80, 73, 67, 75, 32, 65, 68, 68, 32, 77, 73, 78, 32, 77, 65, 88, 32, 82, 69, 77, 32, 65, 78, 68, 32, 79, 82, 32, 88, 79, 82, 32, 84, 73, 68, 32, 66, 73, 68, 32, 68, 73, 77, 32, 71, 82, 73, 68]
def runF (t : List Nat) (k : Nat) (s : List Nat) : List Nat := (t.drop k).takeWhile fun c => decide (c ∈ s)
def runC : ST := tAnd' (sTest (sBin gLt (sVar 3) (sCall cLen (sCons (sVar 0) sNil)))) (sTest (sBin gInT (sBin gIx (sVar 0) (sVar 3)) (sVar 2)))
theorem run_loop {t s : List Nat} {x1 : Option Val} {b : SS} {h : Hv} (ht : t.length ≤ 1000000) (hb : ∀ (e : Int), b [some (.str t), x1, some (.str s), some (.int e)] h = .ok (.nx [some (.str t), x1, some (.str s), some (.int (e + 1))]) h) : ∀ (fuel e : Nat), t.length - e < fuel →
    sWhile runC b fuel [some (.str t), x1, some (.str s), some (.int e)] h = .ok (.nx [some (.str t), x1, some (.str s), some (.int ((e + (runF t e s).length : Nat) : Int))]) h
  | 0, e, hf => absurd hf (Nat.not_lt_zero _)
  | fuel + 1, e, hf => by
    have ht' : t.length ≤ 16777216 := Nat.le_trans ht (by decide)
    rw [sWhile_s]
    by_cases he : e < t.length
    · have hc : t[e]? = some t[e] := List.getElem?_eq_getElem he
      have gx := gIx_str (h := h) ht' hc
      have hd : t.drop e = t[e] :: t.drop (e + 1) := (List.getElem_cons_drop he).symm
      have cd : runC [some (.str t), x1, some (.str s), some (.int e)] h = .ok (decide (t[e] ∈ s)) h := by
        simp [runC, cLen_of ht', he, gx, -List.getElem?_eq_getElem]
      rw [cd, bind_ok]
      by_cases hm : t[e] ∈ s
      · rw [if_pos (by simpa using hm), hb, bind_ok]
        have ih := run_loop ht hb fuel (e + 1) (by omega)
        have er : runF t e s = t[e] :: runF t (e + 1) s := by
          unfold runF
          rw [hd, List.takeWhile_cons, if_pos (by simpa using hm)]
        have e1 : ((e : Int) + 1) = ((e + 1 : Nat) : Int) := by omega
        have e2 : e + 1 + (runF t (e + 1) s).length = e + (runF t e s).length := by rw [er, List.length_cons]; omega
        rw [e2] at ih
        rw [e1]
        exact ih
      · rw [if_neg (by simpa using hm)]
        have er : runF t e s = [] := by
          unfold runF
          rw [hd, List.takeWhile_cons, if_neg (by simpa using hm)]
        rw [er]
        rfl
    · have cd : runC [some (.str t), x1, some (.str s), some (.int e)] h = .ok false h := by
        simp [runC, cLen_of ht', he]
      rw [cd, bind_ok, if_neg Bool.false_ne_true]
      have er : runF t e s = [] := by
        unfold runF
        rw [List.drop_eq_nil_of_le (by omega)]
        rfl
      rw [er]
      rfl
theorem run_take (t s : List Nat) (k : Nat) : (t.drop k).take (runF t k s).length = runF t k s := (List.prefix_iff_eq_take.mp (List.takeWhile_prefix _)).symm
theorem run_len (t s : List Nat) (k : Nat) : (runF t k s).length ≤ t.length := by
  have := (List.takeWhile_prefix (fun c => decide (c ∈ s)) (l := t.drop k)).length_le
  rw [List.length_drop] at this
  unfold runF
  omega
def G_law_stretch : SF := fun us h => match us with
  | [.str t, .int k, .str s] => if 0 ≤ k ∧ k.toNat ≤ t.length ∧ t.length ≤ 1000000 then .ok (.str (runF t k.toNat s)) h else .bad
  | _ => .bad
theorem le_law_stretch : ∀ us h, G_law_stretch us h = .bad ∨ M_law_stretch us h = G_law_stretch us h := by
  intro us h
  unfold G_law_stretch
  split
  · rename_i t k s
    split
    · right
      rename_i hh
      obtain ⟨h0, h1, h2⟩ := hh
      obtain ⟨n, rfl⟩ := Int.eq_ofNat_of_zero_le h0
      rw [Int.toNat_natCast] at h1 ⊢
      have ht' : t.length ≤ 16777216 := Nat.le_trans h2 (by decide)
      have e := run_loop (x1 := some (.int n)) (s := s) (b := M_law_stretch_1) (h := h) h2 (fun e => by simp [M_law_stretch_1]) bigN n (Nat.lt_of_le_of_lt (Nat.sub_le _ _) (big_lt (Nat.lt_of_le_of_lt h2 (by decide))))
      have gs := gSl_str (h := h) ht' h1 (Nat.le_add_right n (runF t n s).length)
      rw [Nat.add_sub_cancel_left, run_take] at gs
      simp only [M_law_stretch, M_law_stretch_b, sFn_3, List.replicate, sSeq_app, sSet_app, sVar_app, List.getElem?_cons_succ, List.getElem?_cons_zero, getV_some, bind_ok, List.set_cons_succ, List.set_cons_zero, seqK_nx]
      show fin (R.bind (sWhile runC M_law_stretch_1 bigN [some (.str t), some (.int n), some (.str s), some (.int n)] h) _) = _
      rw [e]
      simp only [bind_ok, seqK_nx, sRet_app, sSl_app, sVar_app, List.getElem?_cons_succ, List.getElem?_cons_zero, getV_some, sPart_app, partK_int, gs, fin_rt]
    · exact .inl rfl
  · exact .inl rfl
theorem G_law_stretch_of {t s : List Nat} {k : Nat} {h : Hv} (h1 : k ≤ t.length) (h2 : t.length ≤ 1000000) : G_law_stretch [.str t, .int k, .str s] h = .ok (.str (runF t k s)) h := if_pos ⟨Int.natCast_nonneg k, h1, h2⟩
/-! ### _law_token -/
def M_law_token_1 : SS := (sIte (tAnd' (sTest (sBin gEq (sCall cLen (sCons (sSl (sVar 0) (sPart (sVar 1)) (sPart (sBin gAdd (sVar 1) (sVar 5)))) sNil)) (sVar 5))) (sTest (sBin gInT (sSl (sVar 0) (sPart (sVar 1)) (sPart (sBin gAdd (sVar 1) (sVar 5)))) (sLst (sCons (sC (.str [40])) (sCons (sC (.str [41])) (sCons (sC (.str [123])) (sCons (sC (.str [125])) (sCons (sC (.str [91])) (sCons (sC (.str [93])) (sCons (sC (.str [44])) (sCons (sC (.str [59])) (sCons (sC (.str [61])) (sCons (sC (.str [43])) (sCons (sC (.str [45])) (sCons (sC (.str [42])) (sCons (sC (.str [47])) (sCons (sC (.str [38])) (sCons (sC (.str [124])) (sCons (sC (.str [94])) (sCons (sC (.str [60, 60])) (sCons (sC (.str [62, 62])) (sCons (sC (.str [60])) (sCons (sC (.str [60, 61])) (sCons (sC (.str [61, 61])) (sCons (sC (.str [33, 61])) (sCons (sC (.str [126])) (sCons (sC (.str [33])) sNil)))))))))))))))))))))))))))) (sRet (sIf (sTest (sBin gEq (sCall cLen (sCons (sSl (sVar 0) (sPart (sVar 1)) (sPart (sBin gAdd (sVar 1) (sVar 5)))) sNil)) (sVar 5))) (sTup (sCons (sC (.str [115, 121, 109, 98, 111, 108])) (sCons (sSl (sVar 0) (sPart (sVar 1)) (sPart (sBin gAdd (sVar 1) (sVar 5)))) sNil))) (sC .non))) sSkip)
def M_law_token_b : SS := (sSeq (sSet 2 (sSM1 mSplit (sC (.str [75, 69, 82, 78, 69, 76, 32, 73, 78, 84, 32, 66, 85, 70, 70, 69, 82, 32, 83, 72, 65, 82, 69, 68, 32, 76, 69, 84, 32, 65, 84, 79, 77, 73, 67, 32, 73, 70, 32, 69, 76, 83, 69, 32, 87, 72, 73, 76, 69, 32, 66, 82, 69, 65, 75, 32, 67, 79, 78, 84, 73, 78, 85, 69, 32, 82, 69, 84, 85, 82, 78, 32, 66, 65, 82, 82, 73, 69, 82, 32, 67, 79, 76, 76, 69, 67, 84, 32, 80, 73, 67, 75, 32, 65, 68, 68, 32, 77, 73, 78, 32, 77, 65, 88, 32, 82, 69, 77, 32, 65, 78, 68, 32, 79, 82, 32, 88, 79, 82, 32, 84, 73, 68, 32, 66, 73, 68, 32, 68, 73, 77, 32, 71, 82, 73, 68])) (sC (.str [32])))) (sSeq (sSet 3 (sC (.str [97, 98, 99, 100, 101, 102, 103, 104, 105, 106, 107, 108, 109, 110, 111, 112, 113, 114, 115, 116, 117, 118, 119, 120, 121, 122]))) (sSeq (sIte (sTest (sBin gInT (sBin gIx (sVar 0) (sVar 1)) (sVar 3))) (sSeq (sSet 4 (sCall (callF 3 G_law_stretch) (sCons (sVar 0) (sCons (sVar 1) (sCons (sBin gAdd (sVar 3) (sC (.str [48, 49, 50, 51, 52, 53, 54, 55, 56, 57]))) sNil))))) (sRet (sIf (sTest (sBin gLe (sCall cLen (sCons (sVar 4) sNil)) (sC (.int 12)))) (sTup (sCons (sC (.str [110, 97, 109, 101])) (sCons (sVar 4) sNil))) (sC .non)))) sSkip) (sSeq (sIte (sTest (sBin gInT (sBin gIx (sVar 0) (sVar 1)) (sC (.str [48, 49, 50, 51, 52, 53, 54, 55, 56, 57])))) (sSeq (sSet 4 (sCall (callF 3 G_law_stretch) (sCons (sVar 0) (sCons (sVar 1) (sCons (sC (.str [48, 49, 50, 51, 52, 53, 54, 55, 56, 57])) sNil))))) (sRet (sIf (sTest (sBin gLe (sCall cLen (sCons (sVar 4) sNil)) (sC (.int 10)))) (sTup (sCons (sC (.str [110, 117, 109, 98, 101, 114])) (sCons (sVar 4) sNil))) (sC .non)))) sSkip) (sSeq (sIte (sTest (sBin gInT (sBin gIx (sVar 0) (sVar 1)) (sSM0 mUpper (sVar 3)))) (sSeq (sSet 4 (sCall (callF 3 G_law_stretch) (sCons (sVar 0) (sCons (sVar 1) (sCons (sSM0 mUpper (sVar 3)) sNil))))) (sRet (sIf (sTest (sBin gInT (sVar 4) (sVar 2))) (sTup (sCons (sC (.str [107, 101, 121])) (sCons (sVar 4) sNil))) (sC .non)))) sSkip) (sSeq (sIte (sTest (sBin gEq (sSl (sVar 0) (sPart (sVar 1)) (sPart (sBin gAdd (sVar 1) (sC (.int 2))))) (sC (.str [35, 45])))) (sSeq (sSet 4 (sCall (callF 3 G_law_stretch) (sCons (sVar 0) (sCons (sBin gAdd (sVar 1) (sC (.int 2))) (sCons (sC (.str [48, 49, 50, 51, 52, 53, 54, 55, 56, 57])) sNil))))) (sRet (sIf (tAnd' (sTest (sChain gLe gLe (sC (.int 1)) (sCall cLen (sCons (sVar 4) sNil)) (sC (.int 10)))) (sTru (sSM1 mStrip (sVar 4) (sC (.str [48]))))) (sTup (sCons (sC (.str [110, 101, 103, 97, 116, 105, 118, 101])) (sCons (sBin gAdd (sC (.str [35, 45])) (sVar 4)) sNil))) (sC .non)))) sSkip) (sSeq (sFor (iVal (sLst (sCons (sC (.int 2)) (sCons (sC (.int 1)) sNil)))) (gNm 5) M_law_token_1) (sRet (sC .non)))))))))
def M_law_token : SF := sFn 2 6 M_law_token_b
def kName : List Nat := [110, 97, 109, 101]
def kNumber : List Nat := [110, 117, 109, 98, 101, 114]
def kKey : List Nat := [107, 101, 121]
def kNeg : List Nat := [110, 101, 103, 97, 116, 105, 118, 101]
def kSym : List Nat := [115, 121, 109, 98, 111, 108]
def symF (u : List Nat) : List Nat := if u.take 2 ∈ TWO then u.take 2 else if u.take 1 ∈ ONE then u.take 1 else []
/-- kind and text of the token at k -/
def tokP (t : List Nat) (k : Nat) : List Nat × List Nat :=
  if t.getD k 0 ∈ SMALLL then (if (runF t k (SMALLL ++ DIGL)).length ≤ 12 then kName else [], runF t k (SMALLL ++ DIGL))
  else if t.getD k 0 ∈ DIGL then (if (runF t k DIGL).length ≤ 10 then kNumber else [], runF t k DIGL)
  else if t.getD k 0 ∈ CAPL then (if runF t k CAPL ∈ KEYSL then kKey else [], runF t k CAPL)
  else if (t.drop k).take 2 = [35, 45] then (if stripF (runF t (k + 2) DIGL) [48] ≠ [] ∧ (runF t (k + 2) DIGL).length ≤ 10 then kNeg else [], [35, 45] ++ runF t (k + 2) DIGL)
  else (if symF (t.drop k) ≠ [] then kSym else [], symF (t.drop k))
theorem spl_k : TL.spl [32] 0 [] KTXT = KEYSL := by decide +kernel
theorem strip_nil : stripF [] [48] = [] := by
  have := strip_len [] [48]
  exact List.length_eq_zero_iff.mp (Nat.le_zero.mp this)
theorem two_iff (s : List Nat) : (s.length = 2 ∧ s ∈ LAWL) ↔ s ∈ TWO := by
  constructor
  · rintro ⟨h, hm⟩
    simp only [LAWL, List.mem_cons, List.not_mem_nil, or_false] at hm
    rcases hm with rfl | rfl | rfl | rfl | rfl | rfl | rfl | rfl | rfl | rfl | rfl | rfl | rfl | rfl | rfl | rfl | rfl | rfl | rfl | rfl | rfl | rfl | rfl | rfl <;> first | (exact absurd h (by decide)) | decide
  · intro hm
    simp only [TWO, List.mem_cons, List.not_mem_nil, or_false] at hm
    rcases hm with rfl | rfl | rfl | rfl | rfl <;> decide
theorem one_iff (s : List Nat) : (s.length = 1 ∧ s ∈ LAWL) ↔ s ∈ ONE := by
  constructor
  · rintro ⟨h, hm⟩
    simp only [LAWL, List.mem_cons, List.not_mem_nil, or_false] at hm
    rcases hm with rfl | rfl | rfl | rfl | rfl | rfl | rfl | rfl | rfl | rfl | rfl | rfl | rfl | rfl | rfl | rfl | rfl | rfl | rfl | rfl | rfl | rfl | rfl | rfl <;> first | (exact absurd h (by decide)) | decide
  · intro hm
    simp only [ONE, List.mem_cons, List.not_mem_nil, or_false] at hm
    rcases hm with rfl | rfl | rfl | rfl | rfl | rfl | rfl | rfl | rfl | rfl | rfl | rfl | rfl | rfl | rfl | rfl | rfl | rfl | rfl <;> decide
theorem map_sV (L : List (List Nat)) : List.map Val.str L = sV L := rfl
def G_law_token : SF := fun us h => match us with
  | [.str t, .int k] => if 0 ≤ k ∧ k.toNat < t.length ∧ t.length ≤ 1000000 then .ok (if (tokP t k.toNat).1 = [] then .non else .tup [.str (tokP t k.toNat).1, .str (tokP t k.toNat).2]) h else .bad
  | _ => .bad
theorem tok_size {t : List Nat} {k n : Nat} {x2 x3 x4 : Option Val} {h : Hv} (ht : t.length ≤ 16777216) (hk : k ≤ t.length) :
    M_law_token_1 [some (.str t), some (.int k), x2, x3, x4, some (.int n)] h = .ok (if ((t.drop k).take n).length = n ∧ (t.drop k).take n ∈ LAWL then .rt (.tup [.str kSym, .str ((t.drop k).take n)]) else .nx [some (.str t), some (.int k), x2, x3, x4, some (.int n)]) h := by
  have gs := gSl_strn (h := h) (n := n) ht hk
  have hl : ((t.drop k).take n).length ≤ 16777216 := by rw [List.length_take, List.length_drop]; omega
  have ls := cLen_of (h := h) hl
  have hin := in_sVf (x := (t.drop k).take n) (xs := LAWL) (h := h)
  generalize (t.drop k).take n = u at gs hl ls hin ⊢
  simp only [sV, LAWL, List.map_cons, List.map_nil] at hin
  by_cases h1 : (u.length : Int) = (n : Int)
  · have h1' : u.length = n := by omega
    by_cases h2 : u ∈ LAWL
    · rw [if_pos ⟨h1', h2⟩]
      simp only [LAWL] at h2
      simp [M_law_token_1, gs, ls, lstK, tupK, hin, h1, h2, kSym, -List.mem_cons, -gInT_fl, -gInT_tup]
    · rw [if_neg (fun z => h2 z.2)]
      simp only [LAWL] at h2
      simp [M_law_token_1, gs, ls, lstK, tupK, hin, h1, h2, kSym, -List.mem_cons, -gInT_fl, -gInT_tup]
  · rw [if_neg (fun z => h1 (by omega))]
    simp [M_law_token_1, gs, ls, h1]
theorem tok_sizes {t : List Nat} {k : Nat} {x2 x3 x4 x5 : Option Val} {h : Hv} (ht : t.length ≤ 16777216) (hk : k ≤ t.length) :
    ∃ c', sForL (gNm 5) M_law_token_1 [.int 2, .int 1] [some (.str t), some (.int k), x2, x3, x4, x5] h = .ok (if symF (t.drop k) ≠ [] then .rt (.tup [.str kSym, .str (symF (t.drop k))]) else .nx [some (.str t), some (.int k), x2, x3, x4, c']) h := by
  have e2 := tok_size (n := 2) (x2 := x2) (x3 := x3) (x4 := x4) (h := h) ht hk
  have e1 := tok_size (n := 1) (x2 := x2) (x3 := x3) (x4 := x4) (h := h) ht hk
  refine ⟨some (.int ((1 : Nat) : Int)), ?_⟩
  rw [sForL_cons, gNm_app, bind_ok]
  simp only [List.set_cons_succ, List.set_cons_zero]
  show R.bind (M_law_token_1 [some (.str t), some (.int k), x2, x3, x4, some (.int ((2 : Nat) : Int))] h) _ = _
  rw [e2, bind_ok]
  unfold symF
  by_cases h2 : (t.drop k).take 2 ∈ TWO
  · have n2 : (t.drop k).take 2 ≠ [] := by intro z; rw [z] at h2; revert h2; decide
    rw [if_pos ((two_iff _).mpr h2), if_pos h2, if_pos n2]
    rfl
  · rw [if_neg (fun z => h2 ((two_iff _).mp z)), if_neg h2]
    show sForL (gNm 5) M_law_token_1 [.int 1] _ h = _
    rw [sForL_cons, gNm_app, bind_ok]
    simp only [List.set_cons_succ, List.set_cons_zero]
    show R.bind (M_law_token_1 [some (.str t), some (.int k), x2, x3, x4, some (.int ((1 : Nat) : Int))] h) _ = _
    rw [e1, bind_ok]
    by_cases h1 : (t.drop k).take 1 ∈ ONE
    · have n1 : (t.drop k).take 1 ≠ [] := by intro z; rw [z] at h1; revert h1; decide
      rw [if_pos ((one_iff _).mpr h1), if_pos h1, if_pos n1]
      rfl
    · rw [if_neg (fun z => h1 ((one_iff _).mp z)), if_neg h1, if_neg (fun z => z rfl)]
      rfl
theorem getD_of {t : List Nat} {k : Nat} (hk : k < t.length) : t[k]? = some (t.getD k 0) := by rw [List.getD_eq_getElem?_getD, List.getElem?_eq_getElem hk]; rfl
theorem take2 {t : List Nat} {k a b : Nat} (h : (t.drop k).take 2 = [a, b]) : k + 2 ≤ t.length := by
  have := congrArg List.length h
  rw [List.length_take, List.length_drop] at this
  simp at this
  omega
theorem m_law_token {t : List Nat} {k : Nat} {h : Hv} (hk : k < t.length) (h2 : t.length ≤ 1000000) : M_law_token [.str t, .int k] h = .ok (if (tokP t k).1 = [] then .non else .tup [.str (tokP t k).1, .str (tokP t k).2]) h := by
  have ht' : t.length ≤ 16777216 := Nat.le_trans h2 (by decide)
  have gx := gIx_str (h := h) ht' (getD_of hk)
  have gr := fun s => G_law_stretch_of (s := s) (h := h) (Nat.le_of_lt hk) h2
  have rl := fun s => Nat.le_trans (run_len t s k) ht'
  have cl := fun s => cLen_of (h := h) (rl s)
  have gs := gSl_strn (h := h) (n := 2) ht' (Nat.le_of_lt hk)
  have hspl := spl_k
  simp only [KTXT] at hspl
  obtain ⟨c', es⟩ := tok_sizes (x2 := some (.fl (sV KEYSL))) (x3 := some (.str SMALLL)) (x4 := none) (x5 := none) (h := h) ht' (Nat.le_of_lt hk)
  have i12 : ∀ n : Nat, ((n : Int) ≤ 12) = (n ≤ 12) := fun n => propext (by omega)
  have i10 : ∀ n : Nat, ((n : Int) ≤ 10) = (n ≤ 10) := fun n => propext (by omega)
  have i1 : ∀ n : Nat, ((1 : Int) ≤ n) = (1 ≤ n) := fun n => propext (by omega)
  unfold tokP
  generalize t.getD k 0 = c at gx ⊢
  by_cases c1 : c ∈ SMALLL
  · simp only [if_pos c1]
    simp only [SMALLL, DIGL] at c1 ⊢
    by_cases l1 : (runF t k (SMALLL ++ DIGL)).length ≤ 12
    · simp only [SMALLL, DIGL, List.cons_append, List.nil_append] at l1
      simp [M_law_token, M_law_token_b, List.replicate, gx, c1, gr, cl, hspl, map_sV, i12, l1, tupK, kName, -List.mem_cons, -gInT_fl, -gInT_tup, -cLen_str]
    · simp only [SMALLL, DIGL, List.cons_append, List.nil_append] at l1
      simp [M_law_token, M_law_token_b, List.replicate, gx, c1, gr, cl, hspl, map_sV, i12, l1, tupK, kName, -List.mem_cons, -gInT_fl, -gInT_tup, -cLen_str, -Nat.not_le]
  simp only [if_neg c1]
  by_cases c2 : c ∈ DIGL
  · simp only [if_pos c2]
    by_cases l1 : (runF t k DIGL).length ≤ 10
    · simp only [SMALLL, DIGL, List.cons_append, List.nil_append] at l1 c1 c2 ⊢
      simp [M_law_token, M_law_token_b, List.replicate, gx, c1, c2, gr, cl, hspl, map_sV, i10, l1, tupK, kNumber, -List.mem_cons, -gInT_fl, -gInT_tup, -cLen_str]
    · simp only [SMALLL, DIGL, List.cons_append, List.nil_append] at l1 c1 c2 ⊢
      simp [M_law_token, M_law_token_b, List.replicate, gx, c1, c2, gr, cl, hspl, map_sV, i10, l1, tupK, kNumber, -List.mem_cons, -gInT_fl, -gInT_tup, -cLen_str, -Nat.not_le]
  simp only [if_neg c2]
  have ik := fun x => in_sVf (x := x) (xs := KEYSL) (h := h)
  by_cases c3 : c ∈ CAPL
  · simp only [if_pos c3]
    by_cases l1 : runF t k CAPL ∈ KEYSL
    · simp only [SMALLL, DIGL, CAPL] at l1 c1 c2 c3 ⊢
      simp [M_law_token, M_law_token_b, List.replicate, gx, c1, c2, c3, gr, cl, hspl, map_sV, ik, l1, tupK, kKey, PyProof.Rows.up1, -List.mem_cons, -gInT_fl, -gInT_tup, -cLen_str]
    · simp only [SMALLL, DIGL, CAPL] at l1 c1 c2 c3 ⊢
      simp [M_law_token, M_law_token_b, List.replicate, gx, c1, c2, c3, gr, cl, hspl, map_sV, ik, l1, tupK, kKey, PyProof.Rows.up1, -List.mem_cons, -gInT_fl, -gInT_tup, -cLen_str]
  simp only [if_neg c3]
  by_cases c4 : (t.drop k).take 2 = [35, 45]
  · have hk2 := take2 c4
    have gr2 := fun s => G_law_stretch_of (k := k + 2) (s := s) (h := h) hk2 h2
    have rl2 := fun s => Nat.le_trans (run_len t s (k + 2)) ht'
    have cl2 := fun s => cLen_of (h := h) (rl2 s)
    have st2 := fun s y => mStrip_of (h := h) (y := y) (rl2 s)
    have tr2 := fun s y => truK_str (h := h) (Nat.le_trans (strip_len (runF t (k + 2) s) y) (rl2 s))
    have ek : (((k + 2 : Nat) : Int)) = (k : Int) + 2 := by omega
    have gs' : gSl (.str t) (some (k : Int)) (some ((k : Int) + 2)) h = .ok (.str [35, 45]) h := by rw [← c4]; exact gs
    rw [ek] at gr2
    simp only [if_pos c4]
    have hne : stripF (runF t (k + 2) DIGL) [48] ≠ [] → 1 ≤ (runF t (k + 2) DIGL).length := fun hz => by
      cases e : runF t (k + 2) DIGL with
      | nil => rw [e] at hz; exact absurd strip_nil hz
      | cons a as => simp
    have rl3 := rl2 DIGL
    have hl3 : (runF t (k + 2) DIGL).length + 2 ≤ 16777216 := by have := run_len t DIGL (k + 2); omega
    have hl4 : 2 + (runF t (k + 2) DIGL).length ≤ 16777216 := by omega
    have st3 := st2 DIGL [48]
    have tr3 := tr2 DIGL [48]
    have cl3 := cl2 DIGL
    have gr3 := gr2 DIGL
    generalize runF t (k + 2) DIGL = w at *
    have gr4 : G_law_stretch [.str t, .int ((k : Int) + 2), .str [48, 49, 50, 51, 52, 53, 54, 55, 56, 57]] h = .ok (.str w) h := gr3
    by_cases l1 : stripF w [48] ≠ []
    · have l2 := hne l1
      have l3 : (stripF w [48]).isEmpty = false := by cases e : stripF w [48] with
        | nil => exact absurd e l1
        | cons a as => rfl
      by_cases l4 : w.length ≤ 10
      · simp only [if_pos (And.intro l1 l4)]
        simp only [SMALLL, DIGL, CAPL] at c1 c2 c3 ⊢
        simp [M_law_token, M_law_token_b, List.replicate, gx, c1, c2, c3, gs', gr4, cl3, st3, tr3, hspl, map_sV, i10, i1, l2, l3, l4, hl4, tupK, kNeg, PyProof.Rows.up1, -List.mem_cons, -gInT_fl, -gInT_tup, -cLen_str]
      · have q : ¬ (stripF w [48] ≠ [] ∧ w.length ≤ 10) := fun z => l4 z.2
        simp only [if_neg q]
        simp only [SMALLL, DIGL, CAPL] at c1 c2 c3 ⊢
        simp [M_law_token, M_law_token_b, List.replicate, gx, c1, c2, c3, gs', gr4, cl3, st3, tr3, hspl, map_sV, i10, i1, l2, l4, tupK, kNeg, PyProof.Rows.up1, -List.mem_cons, -gInT_fl, -gInT_tup, -cLen_str, -Nat.not_le]
    · have q : ¬ (stripF w [48] ≠ [] ∧ w.length ≤ 10) := fun z => l1 z.1
      simp only [if_neg q]
      have l3 : (stripF w [48]).isEmpty = true := by cases e : stripF w [48] with
        | nil => rfl
        | cons a as => exact absurd (by rw [e]; exact List.cons_ne_nil _ _) l1
      by_cases l2 : 1 ≤ w.length
      · by_cases l4 : w.length ≤ 10
        · simp only [SMALLL, DIGL, CAPL] at c1 c2 c3 ⊢
          simp [M_law_token, M_law_token_b, List.replicate, gx, c1, c2, c3, gs', gr4, cl3, st3, tr3, hspl, map_sV, i10, i1, l2, l3, l4, tupK, kNeg, PyProof.Rows.up1, -List.mem_cons, -gInT_fl, -gInT_tup, -cLen_str]
        · simp only [SMALLL, DIGL, CAPL] at c1 c2 c3 ⊢
          simp [M_law_token, M_law_token_b, List.replicate, gx, c1, c2, c3, gs', gr4, cl3, st3, tr3, hspl, map_sV, i10, i1, l2, l3, l4, tupK, kNeg, PyProof.Rows.up1, -List.mem_cons, -gInT_fl, -gInT_tup, -cLen_str, -Nat.not_le]
      · simp only [SMALLL, DIGL, CAPL] at c1 c2 c3 ⊢
        simp [M_law_token, M_law_token_b, List.replicate, gx, c1, c2, c3, gs', gr4, cl3, st3, tr3, hspl, map_sV, i10, i1, l2, l3, tupK, kNeg, PyProof.Rows.up1, -List.mem_cons, -gInT_fl, -gInT_tup, -cLen_str, -Nat.not_le]
  simp only [if_neg c4]
  have gs' : gSl (.str t) (some (k : Int)) (some ((k : Int) + 2)) h = .ok (.str ((t.drop k).take 2)) h := gs
  generalize (t.drop k).take 2 = u at c4 gs' 
  generalize symF (t.drop k) = y at es ⊢
  simp only [SMALLL] at es
  by_cases hy : y = []
  · subst hy
    rw [if_neg (fun z => z rfl)] at es
    simp only [if_neg (fun z : ([] : List Nat) ≠ [] => z rfl)]
    simp only [SMALLL, DIGL, CAPL] at c1 c2 c3 ⊢
    simp [M_law_token, M_law_token_b, List.replicate, gx, c1, c2, c3, c4, gs', hspl, map_sV, es, lstK, kSym, PyProof.Rows.up1, -List.mem_cons, -gInT_fl, -gInT_tup, -cLen_str]
  · have es' := es
    rw [if_pos hy] at es'
    simp only [if_pos hy]
    simp only [SMALLL, DIGL, CAPL] at c1 c2 c3 ⊢
    simp [M_law_token, M_law_token_b, List.replicate, gx, c1, c2, c3, c4, gs', hspl, map_sV, es', lstK, kSym, PyProof.Rows.up1, -List.mem_cons, -gInT_fl, -gInT_tup, -cLen_str]
theorem le_law_token : ∀ us h, G_law_token us h = .bad ∨ M_law_token us h = G_law_token us h := by
  intro us h
  unfold G_law_token
  split
  · rename_i t k
    split
    · right
      rename_i hh
      obtain ⟨h0, h1, h2⟩ := hh
      obtain ⟨n, rfl⟩ := Int.eq_ofNat_of_zero_le h0
      rw [Int.toNat_natCast] at h1 ⊢
      exact m_law_token h1 h2
    · exact .inl rfl
  · exact .inl rfl
theorem G_law_token_of {t : List Nat} {k : Nat} {h : Hv} (h1 : k < t.length) (h2 : t.length ≤ 1000000) : G_law_token [.str t, .int k] h = .ok (if (tokP t k).1 = [] then .non else .tup [.str (tokP t k).1, .str (tokP t k).2]) h := if_pos ⟨Int.natCast_nonneg k, h1, h2⟩
/-! ### run_of -/
def M_run_of_1 : SS := (sSet 3 (sBin gIAdd (sVar 3) (sC (.int 1))))
def M_run_of_b : SS := (sSeq (sSet 3 (sVar 1)) (sSeq (sWhile (tAnd' (sTest (sBin gLt (sVar 3) (sCall cLen (sCons (sVar 0) sNil)))) (sTest (sBin gInT (sBin gIx (sVar 0) (sVar 3)) (sVar 2)))) M_run_of_1 bigN) (sRet (sSl (sVar 0) (sPart (sVar 1)) (sPart (sVar 3))))))
def M_run_of : SF := sFn 3 4 M_run_of_b
def G_run_of : SF := fun us h => match us with
  | [.str t, .int k, .str s] => if 0 ≤ k ∧ k.toNat ≤ t.length ∧ t.length ≤ 1000000 then .ok (.str (runF t k.toNat s)) h else .bad
  | _ => .bad
theorem le_run_of : ∀ us h, G_run_of us h = .bad ∨ M_run_of us h = G_run_of us h := by
  intro us h
  unfold G_run_of
  split
  · rename_i t k s
    split
    · right
      rename_i hh
      obtain ⟨h0, h1, h2⟩ := hh
      obtain ⟨n, rfl⟩ := Int.eq_ofNat_of_zero_le h0
      rw [Int.toNat_natCast] at h1 ⊢
      have ht' : t.length ≤ 16777216 := Nat.le_trans h2 (by decide)
      have e := run_loop (x1 := some (.int n)) (s := s) (b := M_run_of_1) (h := h) h2 (fun e => by simp [M_run_of_1]) bigN n (Nat.lt_of_le_of_lt (Nat.sub_le _ _) (big_lt (Nat.lt_of_le_of_lt h2 (by decide))))
      have gs := gSl_str (h := h) ht' h1 (Nat.le_add_right n (runF t n s).length)
      rw [Nat.add_sub_cancel_left, run_take] at gs
      simp only [M_run_of, M_run_of_b, sFn_3, List.replicate, sSeq_app, sSet_app, sVar_app, List.getElem?_cons_succ, List.getElem?_cons_zero, getV_some, bind_ok, List.set_cons_succ, List.set_cons_zero, seqK_nx]
      show fin (R.bind (sWhile runC M_run_of_1 bigN [some (.str t), some (.int n), some (.str s), some (.int n)] h) _) = _
      rw [e]
      simp only [bind_ok, seqK_nx, sRet_app, sSl_app, sVar_app, List.getElem?_cons_succ, List.getElem?_cons_zero, getV_some, sPart_app, partK_int, gs, fin_rt]
    · exact .inl rfl
  · exact .inl rfl
theorem G_run_of_of {t s : List Nat} {k : Nat} {h : Hv} (h1 : k ≤ t.length) (h2 : t.length ≤ 1000000) : G_run_of [.str t, .int k, .str s] h = .ok (.str (runF t k s)) h := if_pos ⟨Int.natCast_nonneg k, h1, h2⟩
/-! ### symbol_at -/
def M_symbol_at_1 : SS := (sIte (sTest (sBin gEq (sSl (sVar 0) (sPart (sVar 1)) (sPart (sBin gAdd (sVar 1) (sCall cLen (sCons (sVar 2) sNil))))) (sVar 2))) (sRet (sVar 2)) sSkip)
def M_symbol_at_b : SS := (sSeq (sFor (iVal (sC c_SYMBOLS)) (gNm 2) M_symbol_at_1) (sRet (sC (.str []))))
def M_symbol_at : SF := sFn 2 3 M_symbol_at_b
def SYML : List (List Nat) := TWO ++ ONE
theorem find_len {n : Nat} {u : List Nat} : ∀ L : List (List Nat), (∀ s ∈ L, s.length = n) → L.find? (fun s => decide (u.take s.length = s)) = if u.take n ∈ L then some (u.take n) else none
  | [], _ => by simp
  | s :: L, hL => by
    have hs : s.length = n := hL s List.mem_cons_self
    have ih := find_len (u := u) L fun x hx => hL x (List.mem_cons_of_mem _ hx)
    by_cases h : u.take n = s
    · rw [List.find?_cons_of_pos (by rw [hs]; simpa using h), if_pos (by rw [h]; exact List.mem_cons_self), h]
    · rw [List.find?_cons_of_neg (by rw [hs]; simpa using h), ih]
      by_cases h2 : u.take n ∈ L
      · rw [if_pos h2, if_pos (List.mem_cons_of_mem _ h2)]
      · rw [if_neg h2, if_neg (fun hz => (List.mem_cons.mp hz).elim h h2)]
theorem find_sym (u : List Nat) : (SYML.find? (fun s => decide (u.take s.length = s))).getD [] = symF u := by
  unfold SYML symF
  rw [List.find?_append, find_len TWO (n := 2) (by decide), find_len ONE (n := 1) (by decide)]
  by_cases h : u.take 2 ∈ TWO
  · rw [if_pos h, if_pos h]; rfl
  · rw [if_neg h, if_neg h]
    by_cases h1 : u.take 1 ∈ ONE
    · rw [if_pos h1, if_pos h1]; rfl
    · rw [if_neg h1, if_neg h1]; rfl
theorem sym_loop {t : List Nat} {k : Nat} {h : Hv} (ht : t.length ≤ 16777216) (hk : k ≤ t.length) : ∀ (L : List (List Nat)) (c : Option Val), (∀ s ∈ L, s.length ≤ 100) →
    (∃ s, L.find? (fun s => decide ((t.drop k).take s.length = s)) = some s ∧ sForL (gNm 2) M_symbol_at_1 (sV L) [some (.str t), some (.int k), c] h = .ok (.rt (.str s)) h) ∨
    (L.find? (fun s => decide ((t.drop k).take s.length = s)) = none ∧ ∃ c', sForL (gNm 2) M_symbol_at_1 (sV L) [some (.str t), some (.int k), c] h = .ok (.nx [some (.str t), some (.int k), c']) h)
  | [], c, _ => .inr ⟨rfl, c, rfl⟩
  | s :: L, c, hL => by
    have hs := hL s List.mem_cons_self
    have gs := gSl_strn (h := h) (n := s.length) ht hk
    have ls := cLen_of (h := h) (x := s) (by omega)
    have st : M_symbol_at_1 [some (.str t), some (.int k), some (.str s)] h = .ok (if (t.drop k).take s.length = s then .rt (.str s) else .nx [some (.str t), some (.int k), some (.str s)]) h := by
      by_cases hz : (t.drop k).take s.length = s <;> simp [M_symbol_at_1, ls, gs, hz, -cLen_str]
    show _ ∨ (_ ∧ ∃ c', sForL (gNm 2) M_symbol_at_1 (.str s :: sV L) _ h = _)
    by_cases hz : (t.drop k).take s.length = s
    · rw [if_pos hz] at st
      refine .inl ⟨s, List.find?_cons_of_pos (by simpa using hz), ?_⟩
      show sForL (gNm 2) M_symbol_at_1 (.str s :: sV L) _ h = _
      rw [sForL_cons, gNm_app, bind_ok]
      simp only [List.set_cons_succ, List.set_cons_zero]
      rw [st, bind_ok]
      rfl
    · rw [if_neg hz] at st
      have e : sForL (gNm 2) M_symbol_at_1 (.str s :: sV L) [some (.str t), some (.int k), c] h = sForL (gNm 2) M_symbol_at_1 (sV L) [some (.str t), some (.int k), some (.str s)] h := by
        rw [sForL_cons, gNm_app, bind_ok]
        simp only [List.set_cons_succ, List.set_cons_zero]
        rw [st, bind_ok]
        rfl
      rw [List.find?_cons_of_neg (by simpa using hz), e]
      have ih := sym_loop (h := h) ht hk L (some (.str s)) fun x hx => hL x (List.mem_cons_of_mem _ hx)
      rcases ih with ⟨x, h1, h2⟩ | ih
      · refine .inl ⟨x, h1, ?_⟩
        show sForL (gNm 2) M_symbol_at_1 (.str s :: sV L) _ h = _
        rw [e]; exact h2
      · exact .inr ih
def G_symbol_at : SF := fun us h => match us with
  | [.str t, .int k] => if 0 ≤ k ∧ k.toNat ≤ t.length ∧ t.length ≤ 1000000 then .ok (.str (symF (t.drop k.toNat))) h else .bad
  | _ => .bad
theorem le_symbol_at : ∀ us h, G_symbol_at us h = .bad ∨ M_symbol_at us h = G_symbol_at us h := by
  intro us h
  unfold G_symbol_at
  split
  · rename_i t k
    split
    · right
      rename_i hh
      obtain ⟨h0, h1, h2⟩ := hh
      obtain ⟨n, rfl⟩ := Int.eq_ofNat_of_zero_le h0
      rw [Int.toNat_natCast] at h1 ⊢
      have ht' : t.length ≤ 16777216 := Nat.le_trans h2 (by decide)
      rw [← find_sym]
      have ec : c_SYMBOLS = .tup (sV SYML) := rfl
      rcases sym_loop (h := h) ht' h1 SYML none (by decide) with ⟨s, e1, e2⟩ | ⟨e1, c', e2⟩
      · rw [e1]
        simp [M_symbol_at, M_symbol_at_b, List.replicate, ec, e2]
      · rw [e1]
        simp [M_symbol_at, M_symbol_at_b, List.replicate, ec, e2]
    · exact .inl rfl
  · exact .inl rfl
theorem G_symbol_at_of {t : List Nat} {k : Nat} {h : Hv} (h1 : k ≤ t.length) (h2 : t.length ≤ 1000000) : G_symbol_at [.str t, .int k] h = .ok (.str (symF (t.drop k))) h := if_pos ⟨Int.natCast_nonneg k, h1, h2⟩
/-! ### token_at -/
def M_token_at_b : SS := (sSeq (sSet 2 (sBin gIx (sVar 0) (sVar 1))) (sSeq (sIte (sTest (sBin gInT (sVar 2) (sC c_SMALL))) (sSeq (sSet 3 (sCall (callF 3 G_run_of) (sCons (sVar 0) (sCons (sVar 1) (sCons (sBin gAdd (sC c_SMALL) (sC c_DIGITS)) sNil))))) (sRet (sTup (sCons (sIf (sTest (sBin gLe (sCall cLen (sCons (sVar 3) sNil)) (sC c_MOST_NAME))) (sC (.str [110, 97, 109, 101])) (sC (.str []))) (sCons (sVar 3) sNil))))) sSkip) (sSeq (sIte (sTest (sBin gInT (sVar 2) (sC c_DIGITS))) (sSeq (sSet 3 (sCall (callF 3 G_run_of) (sCons (sVar 0) (sCons (sVar 1) (sCons (sC c_DIGITS) sNil))))) (sRet (sTup (sCons (sIf (sTest (sBin gLe (sCall cLen (sCons (sVar 3) sNil)) (sC c_MOST_DIGITS))) (sC (.str [110, 117, 109, 98, 101, 114])) (sC (.str []))) (sCons (sVar 3) sNil))))) sSkip) (sSeq (sIte (sTest (sBin gInT (sVar 2) (sC c_CAPITALS))) (sSeq (sSet 3 (sCall (callF 3 G_run_of) (sCons (sVar 0) (sCons (sVar 1) (sCons (sC c_CAPITALS) sNil))))) (sRet (sTup (sCons (sIf (sTest (sBin gInT (sVar 3) (sC c_KEYS))) (sC (.str [107, 101, 121])) (sC (.str []))) (sCons (sVar 3) sNil))))) sSkip) (sSeq (sIte (sTest (sBin gEq (sSl (sVar 0) (sPart (sVar 1)) (sPart (sBin gAdd (sVar 1) (sC (.int 2))))) (sC (.str [35, 45])))) (sSeq (sSet 4 (sCall (callF 3 G_run_of) (sCons (sVar 0) (sCons (sBin gAdd (sVar 1) (sC (.int 2))) (sCons (sC c_DIGITS) sNil))))) (sRet (sTup (sCons (sIf (tAnd' (sTru (sSM1 mStrip (sVar 4) (sC (.str [48])))) (sTest (sBin gLe (sCall cLen (sCons (sVar 4) sNil)) (sC c_MOST_DIGITS)))) (sC (.str [110, 101, 103, 97, 116, 105, 118, 101])) (sC (.str []))) (sCons (sBin gAdd (sC (.str [35, 45])) (sVar 4)) sNil))))) sSkip) (sSeq (sSet 3 (sCall (callF 2 G_symbol_at) (sCons (sVar 0) (sCons (sVar 1) sNil)))) (sRet (sTup (sCons (sIf (sTru (sVar 3)) (sC (.str [115, 121, 109, 98, 111, 108])) (sC (.str []))) (sCons (sVar 3) sNil))))))))))
def M_token_at : SF := sFn 2 5 M_token_at_b
def G_token_at : SF := fun us h => match us with
  | [.str t, .int k] => if 0 ≤ k ∧ k.toNat < t.length ∧ t.length ≤ 1000000 then .ok (.tup [.str (tokP t k.toNat).1, .str (tokP t k.toNat).2]) h else .bad
  | _ => .bad
theorem e_SMALL : c_SMALL = .str SMALLL := rfl
theorem e_DIGITS : c_DIGITS = .str DIGL := rfl
theorem e_CAPITALS : c_CAPITALS = .str CAPL := rfl
theorem e_KEYS : c_KEYS = .tup (sV KEYSL) := rfl
theorem m_token_at {t : List Nat} {k : Nat} {h : Hv} (hk : k < t.length) (h2 : t.length ≤ 1000000) : M_token_at [.str t, .int k] h = .ok (.tup [.str (tokP t k).1, .str (tokP t k).2]) h := by
  have ht' : t.length ≤ 16777216 := Nat.le_trans h2 (by decide)
  have gx := gIx_str (h := h) ht' (getD_of hk)
  have gr := fun s => G_run_of_of (s := s) (h := h) (Nat.le_of_lt hk) h2
  have rl := fun s => Nat.le_trans (run_len t s k) ht'
  have cl := fun s => cLen_of (h := h) (rl s)
  have gs : gSl (.str t) (some (k : Int)) (some ((k : Int) + 2)) h = .ok (.str ((t.drop k).take 2)) h := gSl_strn (h := h) (n := 2) ht' (Nat.le_of_lt hk)
  have i12 : ∀ n : Nat, ((n : Int) ≤ 12) = (n ≤ 12) := fun n => propext (by omega)
  have i10 : ∀ n : Nat, ((n : Int) ≤ 10) = (n ≤ 10) := fun n => propext (by omega)
  have hsd : SMALLL.length + DIGL.length ≤ 16777216 := by decide
  have ik := fun x => in_sVt (x := x) (xs := KEYSL) (h := h)
  have sy := G_symbol_at_of (h := h) (Nat.le_of_lt hk) h2
  unfold tokP
  generalize t.getD k 0 = c at gx ⊢
  by_cases c1 : c ∈ SMALLL
  · simp only [if_pos c1]
    by_cases l1 : (runF t k (SMALLL ++ DIGL)).length ≤ 12
    · simp [M_token_at, M_token_at_b, List.replicate, gx, e_SMALL, e_DIGITS, c_MOST_NAME, c1, gr, cl, i12, l1, hsd, tupK, kName, -gInT_fl, -gInT_tup, -cLen_str]
    · simp [M_token_at, M_token_at_b, List.replicate, gx, e_SMALL, e_DIGITS, c_MOST_NAME, c1, gr, cl, i12, l1, hsd, tupK, kName, -gInT_fl, -gInT_tup, -cLen_str, -Nat.not_le]
  simp only [if_neg c1]
  by_cases c2 : c ∈ DIGL
  · simp only [if_pos c2]
    by_cases l1 : (runF t k DIGL).length ≤ 10
    · simp [M_token_at, M_token_at_b, List.replicate, gx, e_SMALL, e_DIGITS, c_MOST_DIGITS, c1, c2, gr, cl, i10, l1, tupK, kNumber, -gInT_fl, -gInT_tup, -cLen_str]
    · simp [M_token_at, M_token_at_b, List.replicate, gx, e_SMALL, e_DIGITS, c_MOST_DIGITS, c1, c2, gr, cl, i10, l1, tupK, kNumber, -gInT_fl, -gInT_tup, -cLen_str, -Nat.not_le]
  simp only [if_neg c2]
  by_cases c3 : c ∈ CAPL
  · simp only [if_pos c3]
    by_cases l1 : runF t k CAPL ∈ KEYSL
    · simp [M_token_at, M_token_at_b, List.replicate, gx, e_SMALL, e_DIGITS, e_CAPITALS, e_KEYS, c1, c2, c3, gr, cl, ik, l1, tupK, kKey, -gInT_fl, -gInT_tup, -cLen_str]
    · simp [M_token_at, M_token_at_b, List.replicate, gx, e_SMALL, e_DIGITS, e_CAPITALS, e_KEYS, c1, c2, c3, gr, cl, ik, l1, tupK, kKey, -gInT_fl, -gInT_tup, -cLen_str]
  simp only [if_neg c3]
  by_cases c4 : (t.drop k).take 2 = [35, 45]
  · have hk2 := take2 c4
    have gr2 := fun s => G_run_of_of (k := k + 2) (s := s) (h := h) hk2 h2
    have rl2 := fun s => Nat.le_trans (run_len t s (k + 2)) ht'
    have cl2 := fun s => cLen_of (h := h) (rl2 s)
    have st2 := fun s y => mStrip_of (h := h) (y := y) (rl2 s)
    have tr2 := fun s y => truK_str (h := h) (Nat.le_trans (strip_len (runF t (k + 2) s) y) (rl2 s))
    have ek : (((k + 2 : Nat) : Int)) = (k : Int) + 2 := by omega
    rw [ek] at gr2
    rw [c4] at gs
    simp only [if_pos c4]
    have hl4 : 2 + (runF t (k + 2) DIGL).length ≤ 16777216 := by have := run_len t DIGL (k + 2); omega
    have st3 := st2 DIGL [48]
    have tr3 := tr2 DIGL [48]
    have cl3 := cl2 DIGL
    have gr3 := gr2 DIGL
    generalize runF t (k + 2) DIGL = w at *
    by_cases l1 : stripF w [48] ≠ []
    · have l3 : (stripF w [48]).isEmpty = false := by cases e : stripF w [48] with
        | nil => exact absurd e l1
        | cons a as => rfl
      by_cases l4 : w.length ≤ 10
      · simp only [if_pos (And.intro l1 l4)]
        simp [M_token_at, M_token_at_b, List.replicate, gx, e_SMALL, e_DIGITS, e_CAPITALS, c_MOST_DIGITS, c1, c2, c3, gs, gr3, cl3, st3, tr3, i10, l3, l4, hl4, tupK, kNeg, -gInT_fl, -gInT_tup, -cLen_str, -List.isEmpty_eq_false_iff]
      · have q : ¬ (stripF w [48] ≠ [] ∧ w.length ≤ 10) := fun z => l4 z.2
        simp only [if_neg q]
        simp [M_token_at, M_token_at_b, List.replicate, gx, e_SMALL, e_DIGITS, e_CAPITALS, c_MOST_DIGITS, c1, c2, c3, gs, gr3, cl3, st3, tr3, i10, l3, l4, hl4, tupK, kNeg, -gInT_fl, -gInT_tup, -cLen_str, -Nat.not_le, -List.isEmpty_eq_false_iff]
    · have q : ¬ (stripF w [48] ≠ [] ∧ w.length ≤ 10) := fun z => l1 z.1
      simp only [if_neg q]
      have l3 : (stripF w [48]).isEmpty = true := by cases e : stripF w [48] with
        | nil => rfl
        | cons a as => exact absurd (by rw [e]; exact List.cons_ne_nil _ _) l1
      simp [M_token_at, M_token_at_b, List.replicate, gx, e_SMALL, e_DIGITS, e_CAPITALS, c_MOST_DIGITS, c1, c2, c3, gs, gr3, cl3, st3, tr3, i10, l3, hl4, tupK, kNeg, -gInT_fl, -gInT_tup, -cLen_str, -List.isEmpty_iff]
  simp only [if_neg c4]
  have hy2 : (symF (t.drop k)).length ≤ 16777216 := by
    unfold symF
    split
    · rw [List.length_take]; omega
    · split
      · rw [List.length_take]; omega
      · exact Nat.zero_le _
  have tr := truK_str (h := h) hy2
  generalize (t.drop k).take 2 = u at c4 gs
  generalize symF (t.drop k) = y at sy tr ⊢
  cases y with
  | nil => simp [M_token_at, M_token_at_b, List.replicate, gx, e_SMALL, e_DIGITS, e_CAPITALS, c1, c2, c3, c4, gs, sy, tr, tupK, kSym, -gInT_fl, -gInT_tup, -cLen_str]
  | cons a as => simp [M_token_at, M_token_at_b, List.replicate, gx, e_SMALL, e_DIGITS, e_CAPITALS, c1, c2, c3, c4, gs, sy, tr, tupK, kSym, -gInT_fl, -gInT_tup, -cLen_str]
theorem le_token_at : ∀ us h, G_token_at us h = .bad ∨ M_token_at us h = G_token_at us h := by
  intro us h
  unfold G_token_at
  split
  · rename_i t k
    split
    · right
      rename_i hh
      obtain ⟨h0, h1, h2⟩ := hh
      obtain ⟨n, rfl⟩ := Int.eq_ofNat_of_zero_le h0
      rw [Int.toNat_natCast] at h1 ⊢
      exact m_token_at h1 h2
    · exact .inl rfl
  · exact .inl rfl
theorem G_token_at_of {t : List Nat} {k : Nat} {h : Hv} (h1 : k < t.length) (h2 : t.length ≤ 1000000) : G_token_at [.str t, .int k] h = .ok (.tup [.str (tokP t k).1, .str (tokP t k).2]) h := if_pos ⟨Int.natCast_nonneg k, h1, h2⟩
/-! ### tokens -/
def M_tokens_1 : SS := (sSeq (sIte (sTest (sBin gInT (sBin gIx (sVar 0) (sVar 2)) (sC (.str [32, 10])))) (sSeq (sSet 2 (sBin gIAdd (sVar 2) (sC (.int 1)))) sCnt) sSkip) (sSeq (sAsg (sCall (callF 2 G_token_at) (sCons (sVar 0) (sCons (sVar 2) sNil))) (gTp [3, 4])) (sSeq (sExpr (sMeth mAppend (sVar 1) (sCons (sTup (sCons (sVar 3) (sCons (sVar 4) (sCons (sVar 2) sNil)))) sNil))) (sSeq (sIte (tNot' (sTru (sVar 3))) (sRet (sFrz (sVar 1))) sSkip) (sSet 2 (sBin gIAdd (sVar 2) (sCall cLen (sCons (sVar 4) sNil))))))))
def M_tokens_b : SS := (sSeq (sSet 1 (sLstN sNil)) (sSeq (sSet 2 (sC (.int 0))) (sSeq (sWhile (sTest (sBin gLt (sVar 2) (sCall cLen (sCons (sVar 0) sNil)))) M_tokens_1 bigN) (sRet (sFrz (sVar 1))))))
def M_tokens : SF := sFn 1 5 M_tokens_b
def rowV (p : List Nat × List Nat × Nat) : Val := .tup [.str p.1, .str p.2.1, .int p.2.2]
def toksF : Nat → List Nat → Nat → List (List Nat × List Nat × Nat)
  | 0, _, _ => []
  | n + 1, t, k => if k < t.length then (if t.getD k 0 ∈ ([32, 10] : List Nat) then toksF n t (k + 1) else ((tokP t k).1, (tokP t k).2, k) :: (if (tokP t k).1 = [] then [] else toksF n t (k + (tokP t k).2.length))) else []
theorem run_pos {t s : List Nat} {k : Nat} (hk : k < t.length) (h : t.getD k 0 ∈ s) : 1 ≤ (runF t k s).length := by
  have hd : t.drop k = t[k] :: t.drop (k + 1) := (List.getElem_cons_drop hk).symm
  have hc : t.getD k 0 = t[k] := by rw [List.getD_eq_getElem?_getD, List.getElem?_eq_getElem hk]; rfl
  unfold runF
  rw [hd, List.takeWhile_cons, if_pos (by rw [← hc]; simpa using h), List.length_cons]
  omega
theorem tok_pos {t : List Nat} {k : Nat} (hk : k < t.length) (h : (tokP t k).1 ≠ []) : 1 ≤ (tokP t k).2.length := by
  unfold tokP at h ⊢
  by_cases c1 : t.getD k 0 ∈ SMALLL
  · simp only [if_pos c1]; exact run_pos hk (List.mem_append_left _ c1)
  simp only [if_neg c1] at h ⊢
  by_cases c2 : t.getD k 0 ∈ DIGL
  · simp only [if_pos c2]; exact run_pos hk c2
  simp only [if_neg c2] at h ⊢
  by_cases c3 : t.getD k 0 ∈ CAPL
  · simp only [if_pos c3]; exact run_pos hk c3
  simp only [if_neg c3] at h ⊢
  by_cases c4 : (t.drop k).take 2 = [35, 45]
  · simp only [if_pos c4]; simp
  simp only [if_neg c4] at h ⊢
  by_cases c5 : symF (t.drop k) ≠ []
  · cases e : symF (t.drop k) with
    | nil => exact absurd e c5
    | cons a as => simp
  · simp only [if_neg c5] at h; exact absurd rfl h
theorem tok_len {t : List Nat} {k : Nat} : (tokP t k).2.length ≤ t.length + 2 := by
  unfold tokP
  have r1 := run_len t (SMALLL ++ DIGL) k
  have r2 := run_len t DIGL k
  have r3 := run_len t CAPL k
  have r4 := run_len t DIGL (k + 2)
  have r5 : (symF (t.drop k)).length ≤ 2 := by
    unfold symF
    split
    · rw [List.length_take]; omega
    · split
      · rw [List.length_take]; omega
      · exact Nat.zero_le _
  repeat' split
  all_goals (first | (simp only [List.length_append, List.length_cons, List.length_nil]; omega) | omega)
theorem tok_kind {t : List Nat} {k : Nat} : (tokP t k).1.length ≤ 16777216 := by
  unfold tokP
  repeat' split
  all_goals (first | exact (by decide : kName.length ≤ 16777216) | exact (by decide : kNumber.length ≤ 16777216) | exact (by decide : kKey.length ≤ 16777216) | exact (by decide : kNeg.length ≤ 16777216) | exact (by decide : kSym.length ≤ 16777216) | exact Nat.zero_le _)
def tokC : ST := sTest (sBin gLt (sVar 2) (sCall cLen (sCons (sVar 0) sNil)))
theorem tok_loop {t : List Nat} (ht : t.length ≤ 1000000) {h : Hv} : ∀ (fuel k : Nat) (acc : List (List Nat × List Nat × Nat)) (x3 x4 : Option Val), t.length - k < fuel → acc.length + (t.length - k) ≤ 1000000 →
    (∃ k' z3 z4, sWhile tokC M_tokens_1 fuel [some (.str t), some (.ref h.length), some (.int k), x3, x4] (h ++ [.lst (acc.map rowV)]) = .ok (.nx [some (.str t), some (.ref h.length), k', z3, z4]) (h ++ [.lst ((acc ++ toksF fuel t k).map rowV)])) ∨
    sWhile tokC M_tokens_1 fuel [some (.str t), some (.ref h.length), some (.int k), x3, x4] (h ++ [.lst (acc.map rowV)]) = .ok (.rt (.fl ((acc ++ toksF fuel t k).map rowV))) (h ++ [.dead])
  | 0, k, acc, x3, x4, hf, _ => absurd hf (Nat.not_lt_zero _)
  | fuel + 1, k, acc, x3, x4, hf, hl => by
    have ht' : t.length ≤ 16777216 := Nat.le_trans ht (by decide)
    rw [sWhile_s]
    unfold toksF
    by_cases hk : k < t.length
    · have cd : tokC [some (.str t), some (.ref h.length), some (.int k), x3, x4] (h ++ [.lst (acc.map rowV)]) = .ok true (h ++ [.lst (acc.map rowV)]) := by
        simp [tokC, cLen_of ht', hk, -cLen_str]
      rw [cd, bind_ok, if_pos rfl, if_pos hk]
      have gx := fun h => gIx_str (h := h) ht' (getD_of hk)
      by_cases hs : t.getD k 0 ∈ ([32, 10] : List Nat)
      · rw [if_pos hs]
        have st : M_tokens_1 [some (.str t), some (.ref h.length), some (.int k), x3, x4] (h ++ [.lst (acc.map rowV)]) = .ok (.ct [some (.str t), some (.ref h.length), some (.int ((k + 1 : Nat) : Int)), x3, x4]) (h ++ [.lst (acc.map rowV)]) := by
          generalize t.getD k 0 = c at gx hs
          simp [M_tokens_1, gx, hs, -List.mem_cons]
        rw [st, bind_ok]
        exact tok_loop ht fuel (k + 1) acc x3 x4 (by omega) (by omega)
      · rw [if_neg hs]
        have gt := fun h => G_token_at_of (h := h) hk ht
        have lp : (tokP t k).2.length ≤ 16777216 := by have := tok_len (t := t) (k := k); omega
        have kl : (tokP t k).1.length ≤ 16777216 := tok_kind
        have cl := fun h => cLen_of (h := h) lp
        have tr := fun h => truK_str (h := h) kl
        have ap := fun v => appK_of (h := h ++ [.lst (acc.map rowV)]) (n := h.length) (v := v) (vs := acc.map rowV) (by rw [List.length_map]; omega)
        have er : acc.map rowV ++ [rowV ((tokP t k).1, (tokP t k).2, k)] = (acc ++ [((tokP t k).1, (tokP t k).2, k)]).map rowV := by simp
        have tp := fun hn => tok_pos hk hn
        have hrow : Val.tup [.str (tokP t k).1, .str (tokP t k).2, .int k] = rowV ((tokP t k).1, (tokP t k).2, k) := rfl
        generalize tokP t k = p at *
        generalize t.getD k 0 = c at gx hs
        by_cases hp : p.1 = []
        · rw [if_pos hp]
          have he : p.1.isEmpty = true := by rw [hp]; rfl
          refine .inr ?_
          have st : M_tokens_1 [some (.str t), some (.ref h.length), some (.int k), x3, x4] (h ++ [.lst (acc.map rowV)]) = .ok (.rt (.fl ((acc ++ [(p.1, p.2, k)]).map rowV))) (h ++ [.dead]) := by
            simp [M_tokens_1, gx, hs, gt, gTp, tupK, ap, set_new, tr, he, hrow, -List.mem_cons, -List.isEmpty_iff]
          rw [st, bind_ok]
          rfl
        · rw [if_neg hp]
          have he : p.1.isEmpty = false := by cases e : p.1 with
            | nil => exact absurd e hp
            | cons a as => rfl
          have t1 := tp hp
          have st : M_tokens_1 [some (.str t), some (.ref h.length), some (.int k), x3, x4] (h ++ [.lst (acc.map rowV)]) = .ok (.nx [some (.str t), some (.ref h.length), some (.int ((k + p.2.length : Nat) : Int)), some (.str p.1), some (.str p.2)]) (h ++ [.lst ((acc ++ [(p.1, p.2, k)]).map rowV)]) := by
            simp [M_tokens_1, gx, hs, gt, gTp, tupK, ap, set_new, tr, he, hrow, cl, -List.mem_cons, -List.isEmpty_iff, -List.isEmpty_eq_false_iff, -cLen_str]
          rw [st, bind_ok]
          have ih := tok_loop ht (h := h) fuel (k + p.2.length) (acc ++ [(p.1, p.2, k)]) (some (.str p.1)) (some (.str p.2)) (by omega) (by rw [List.length_append, List.length_singleton]; omega)
          rw [List.append_assoc] at ih
          exact ih
    · have cd : tokC [some (.str t), some (.ref h.length), some (.int k), x3, x4] (h ++ [.lst (acc.map rowV)]) = .ok false (h ++ [.lst (acc.map rowV)]) := by
        simp [tokC, cLen_of ht', hk, -cLen_str]
      rw [cd, bind_ok, if_neg Bool.false_ne_true, if_neg hk, List.append_nil]
      exact .inl ⟨_, _, _, rfl⟩
def G_tokens : SF := fun us h => match us with
  | [.str t] => if t.length ≤ 1000000 then .ok (.fl ((toksF bigN t 0).map rowV)) h else .bad
  | _ => .bad
theorem rows_lt (n : Nat) : ∀ L : List (List Nat × List Nat × Nat), Val.lt.ltl n (L.map rowV) = true
  | [] => rfl
  | p :: L => by show (Val.lt n (rowV p) && Val.lt.ltl n (L.map rowV)) = true; rw [rows_lt n L]; rfl
theorem cut_new {h : Hv} {c : Cell} {v : Val} (hv : v.lt h.length = true) {F : SF} {us : List Val} (e : F us h = .ok v (h ++ [c])) : trunc F us h = .ok v h := by
  unfold trunc
  rw [e, bind_ok, if_pos, List.take_left' rfl]
  refine ⟨hv, fun j d hj hd => ?_⟩
  rw [List.getElem?_append_left hj] at hd
  exact .inl hd
theorem le_tokens : ∀ us h, G_tokens us h = .bad ∨ trunc M_tokens us h = G_tokens us h := by
  intro us h
  unfold G_tokens
  split
  · rename_i t
    split
    · rename_i ht
      refine .inr (cut_new (c := .dead) (v := .fl ((toksF bigN t 0).map rowV)) (rows_lt _ _) ?_)
      rcases tok_loop ht (h := h) bigN 0 [] none none (big_lt (by omega)) (by simpa using ht) with ⟨k', z3, z4, e⟩ | e
      · simp only [M_tokens, M_tokens_b, sFn_1, List.replicate, sSeq_app, sSet_app, sLstN_app, sNil_app, lstNK, List.length_nil, Nat.zero_le, if_true, bind_ok, seqK_nx, List.set_cons_succ, List.set_cons_zero, sC_app]
        show fin (R.bind (sWhile tokC M_tokens_1 bigN [some (.str t), some (.ref h.length), some (.int ((0 : Nat) : Int)), none, none] (h ++ [.lst (([] : List (List Nat × List Nat × Nat)).map rowV)])) _) = _
        rw [e]
        simp only [bind_ok, seqK_nx, sRet_app, sFrz_app, sVar_app, List.getElem?_cons_succ, List.getElem?_cons_zero, getV_some, frz_ref, cellAt_new, lstK?_lst, set_new, fin_rt, List.nil_append]
      · simp only [M_tokens, M_tokens_b, sFn_1, List.replicate, sSeq_app, sSet_app, sLstN_app, sNil_app, lstNK, List.length_nil, Nat.zero_le, if_true, bind_ok, seqK_nx, List.set_cons_succ, List.set_cons_zero, sC_app]
        show fin (R.bind (sWhile tokC M_tokens_1 bigN [some (.str t), some (.ref h.length), some (.int ((0 : Nat) : Int)), none, none] (h ++ [.lst (([] : List (List Nat × List Nat × Nat)).map rowV)])) _) = _
        rw [e]
        simp only [bind_ok, seqK_rt, fin_rt, List.nil_append]
    · exact .inl rfl
  · exact .inl rfl
theorem G_tokens_of {t : List Nat} {h : Hv} (ht : t.length ≤ 1000000) : G_tokens [.str t] h = .ok (.fl ((toksF bigN t 0).map rowV)) h := if_pos ht
/-! ### _law_same -/
section
variable (G_law_same : SF)
def M_law_same_b : SS := (sSeq (sIte (tOr' (sTru (sUn (gIsi (fun k => k == 4)) (sVar 1))) (sTru (sUn (gIsi (fun k => k == 5)) (sVar 1)))) (sSeq (sIte (tOr' (sTest (sBin gNe (sUn (gIsi (fun k => k == 4)) (sVar 0)) (sUn (gIsi (fun k => k == 4)) (sVar 1)))) (sTest (sBin gNe (sUn (gIsi (fun k => k == 5)) (sVar 0)) (sUn (gIsi (fun k => k == 5)) (sVar 1))))) (sRet (sC (.bl false))) sSkip) (sRet (sAnd (sBin gEq (sCall cLen (sCons (sVar 0) sNil)) (sCall cLen (sCons (sVar 1) sNil))) (sCall cAll (sCons (sLc [2] (iRange1 (sCall cLen (sCons (sVar 1) sNil))) (gNm 2) tTrue (sCall (callF 2 G_law_same) (sCons (sBin gIx (sVar 0) (sVar 2)) (sCons (sBin gIx (sVar 1) (sVar 2)) sNil)))) sNil))))) sSkip) (sSeq (sIte (sTest (sBin gIsN (sVar 1) (sC .non))) (sRet (sBin gIsN (sVar 0) (sC .non))) sSkip) (sSeq (sIte (sTru (sUn (gIsi (fun k => k == 3)) (sVar 1))) (sRet (sAnd (sUn (gIsi (fun k => k == 3)) (sVar 0)) (sBin gEq (sVar 0) (sVar 1)))) sSkip) (sRet (sAnd (sUn (gIsi (fun k => k == 2 || k == 1)) (sVar 0)) (sAnd (sBin gEq (sUn (gIsi (fun k => k == 1)) (sVar 0)) (sUn (gIsi (fun k => k == 1)) (sVar 1))) (sBin gEq (sVar 0) (sVar 1))))))))
def M_law_same : SF := sFn 2 3 (M_law_same_b G_law_same)
end
def G_law_same : SF := fun us h => match us with
  | [.int a, .int b] => .ok (.bl (decide (a = b))) h
  | [.str a, .str b] => .ok (.bl (decide (a = b))) h
  | _ => .bad
theorem le_law_same' (g : SF) : ∀ us h, G_law_same us h = .bad ∨ M_law_same g us h = G_law_same us h := by
  intro us h
  unfold G_law_same
  split
  · right
    simp [M_law_same, M_law_same_b, List.replicate]
  · right
    rfl
  · exact .inl rfl
@[simp] theorem G_law_same_int {a b : Int} {h : Hv} : G_law_same [.int a, .int b] h = .ok (.bl (decide (a = b))) h := rfl
@[simp] theorem G_law_same_str {a b : List Nat} {h : Hv} : G_law_same [.str a, .str b] h = .ok (.bl (decide (a = b))) h := rfl
/-! ### law -/
def M_law_1 : SS := (sSet 3 (sBin gAdd (sBin gAdd (sVar 3) (sCall (callF 2 G_law_pick) (sCons (sVar 1) (sCons (sVar 2) sNil)))) (sCall (callF 2 G_law_pick) (sCons (sVar 1) (sCons (sLst (sCons (sC (.str [])) (sCons (sC (.str [])) (sCons (sC (.str [32])) (sCons (sC (.str [10])) (sCons (sC (.str [32, 32])) sNil)))))) sNil)))))
def M_law_2 : SS := (sSeq (sIte (sTest (sBin gInT (sBin gIx (sVar 3) (sVar 4)) (sC (.str [32, 10])))) (sSeq (sSet 4 (sBin gAdd (sVar 4) (sC (.int 1)))) sCnt) sSkip) (sSeq (sSet 6 (sCall (callF 2 G_law_token) (sCons (sVar 3) (sCons (sVar 4) sNil)))) (sSeq (sExpr (sMeth mAppend (sVar 5) (sCons (sIf (sTest (sBin gNotN (sVar 6) (sC .non))) (sTup (sCons (sBin gIx (sVar 6) (sC (.int 0))) (sCons (sBin gIx (sVar 6) (sC (.int 1))) (sCons (sVar 4) sNil)))) (sTup (sCons (sC (.str [])) (sCons (sC .non) (sCons (sVar 4) sNil))))) sNil))) (sSeq (sIte (sTest (sBin gIsN (sVar 6) (sC .non))) sBrk sSkip) (sSet 4 (sBin gAdd (sVar 4) (sCall cLen (sCons (sBin gIx (sVar 6) (sC (.int 1))) sNil))))))))
def M_law_3 : SS := (sSeq (sIte (tOr' (tNot' (sTru (sUn (gIsi (fun k => k == 4)) (sBin gIx (sVar 7) (sVar 8))))) (tOr' (sTest (sBin gNe (sCall cLen (sCons (sBin gIx (sVar 7) (sVar 8)) sNil)) (sC (.int 3)))) (tOr' (tNot' (sTru (sCall (callF 2 G_law_same) (sCons (sBin gIx (sBin gIx (sVar 7) (sVar 8)) (sC (.int 0))) (sCons (sBin gIx (sBin gIx (sVar 5) (sVar 8)) (sC (.int 0))) sNil))))) (tNot' (sTru (sCall (callF 2 G_law_same) (sCons (sBin gIx (sBin gIx (sVar 7) (sVar 8)) (sC (.int 2))) (sCons (sBin gIx (sBin gIx (sVar 5) (sVar 8)) (sC (.int 2))) sNil)))))))) (sRet (sC (.bl false))) sSkip) (sIte (tAnd' (sTest (sBin gNe (sBin gIx (sBin gIx (sVar 5) (sVar 8)) (sC (.int 0))) (sC (.str [])))) (tNot' (sTru (sCall (callF 2 G_law_same) (sCons (sBin gIx (sBin gIx (sVar 7) (sVar 8)) (sC (.int 1))) (sCons (sBin gIx (sBin gIx (sVar 5) (sVar 8)) (sC (.int 1))) sNil)))))) (sRet (sC (.bl false))) sSkip))
def M_law_b : SS := (sSeq (sSet 1 (sCall (callF 1 G_law_stream) (sCons (sVar 0) sNil))) (sSeq (sSet 2 (sLstN (sCons (sC (.str [75, 69, 82, 78, 69, 76])) (sCons (sC (.str [73, 78, 84])) (sCons (sC (.str [76, 69, 84])) (sCons (sC (.str [80, 73, 67, 75])) (sCons (sC (.str [84, 73, 68])) (sCons (sC (.str [88, 79, 82])) (sCons (sC (.str [76, 69, 84, 83])) (sCons (sC (.str [73])) (sCons (sC (.str [97])) (sCons (sC (.str [98, 55])) (sCons (sC (.str [97, 98, 99, 100, 101, 102, 103, 104, 105, 106, 107, 108])) (sCons (sC (.str [97, 98, 99, 100, 101, 102, 103, 104, 105, 106, 107, 108, 109])) (sCons (sC (.str [120, 48])) (sCons (sC (.str [48])) (sCons (sC (.str [55])) (sCons (sC (.str [48, 48, 55])) (sCons (sC (.str [49, 50, 51, 52, 53, 54, 55, 56, 57, 48])) (sCons (sC (.str [49, 50, 51, 52, 53, 54, 55, 56, 57, 48, 49])) (sCons (sC (.str [35, 45, 53])) (sCons (sC (.str [35, 45, 48])) (sCons (sC (.str [35, 45])) (sCons (sC (.str [35])) (sCons (sC (.str [35, 45, 48, 48])) (sCons (sC (.str [35, 45, 49, 50, 51, 52, 53, 54, 55, 56, 57, 48, 49])) sNil)))))))))))))))))))))))))) (sSeq (sExpr (sMeth mExtend (sVar 2) (sCons (sLst (sCons (sC (.str [40])) (sCons (sC (.str [41])) (sCons (sC (.str [123])) (sCons (sC (.str [125])) (sCons (sC (.str [91])) (sCons (sC (.str [93])) (sCons (sC (.str [44])) (sCons (sC (.str [59])) (sCons (sC (.str [61])) (sCons (sC (.str [61, 61])) (sCons (sC (.str [61, 61, 61])) (sCons (sC (.str [43])) (sCons (sC (.str [45])) (sCons (sC (.str [42])) (sCons (sC (.str [47])) (sCons (sC (.str [38])) (sCons (sC (.str [124])) (sCons (sC (.str [94])) (sCons (sC (.str [60, 60])) (sCons (sC (.str [62, 62])) (sCons (sC (.str [62])) (sCons (sC (.str [60])) (sCons (sC (.str [60, 61])) (sCons (sC (.str [60, 60, 61])) (sCons (sC (.str [33, 61])) (sCons (sC (.str [126])) (sCons (sC (.str [33])) (sCons (sC (.str [33, 33])) (sCons (sC (.str [46])) (sCons (sC (.str [63])) (sCons (sC (.str [95])) (sCons (sC (.str [65, 49])) (sCons (sC (.str [9])) sNil)))))))))))))))))))))))))))))))))) sNil))) (sSeq (sFrzV 2) (sSeq (sSet 3 (sC (.str []))) (sSeq (sFor (iRange1 (sCall (callF 2 G_law_draw) (sCons (sVar 1) (sCons (sC (.int 14)) sNil)))) (gNm 4) M_law_1) (sSeq (sSet 5 (sLstN sNil)) (sSeq (sSet 4 (sC (.int 0))) (sSeq (sWhile (sTest (sBin gLt (sVar 4) (sCall cLen (sCons (sVar 3) sNil)))) M_law_2 bigN) (sSeq (sSet 7 (sCall (callF 1 G_tokens) (sCons (sVar 3) sNil))) (sSeq (sIte (tOr' (tNot' (sTru (sUn (gIsi (fun k => k == 5)) (sVar 7)))) (sTest (sBin gNe (sCall cLen (sCons (sVar 7) sNil)) (sCall cLen (sCons (sVar 5) sNil))))) (sRet (sC (.bl false))) sSkip) (sSeq (sFor (iRange1 (sCall cLen (sCons (sVar 5) sNil))) (gNm 8) M_law_3) (sRet (sC (.bl true)))))))))))))))
def M_law : SF := sFn 1 9 M_law_b
theorem seq_eq {f g : SS} {sv s : Env} {h h' : Hv} {Q : Val → Hv → Prop} (e : f sv h = .ok (.nx s) h') (k : Ok (fin (g s h')) Q) : Ok (fin (sSeq f g sv h)) Q := by
  rw [sSeq_app, e, bind_ok, seqK_nx]; exact k
theorem seq_ok {f g : SS} {sv : Env} {h : Hv} {P : Env → Hv → Prop} {Q : Val → Hv → Prop} (e : Ok (f sv h) fun fl h' => ∃ s, fl = .nx s ∧ P s h') (k : ∀ s h', P s h' → Ok (fin (g s h')) Q) : Ok (fin (sSeq f g sv h)) Q := by
  obtain ⟨fl, h', e1, s, rfl, p⟩ := e
  exact seq_eq e1 (k s h' p)
theorem seqF_eq {f g : SS} {sv s : Env} {h h' : Hv} {Q : Fl → Hv → Prop} (e : f sv h = .ok (.nx s) h') (k : Ok (g s h') Q) : Ok (sSeq f g sv h) Q := by
  rw [sSeq_app, e, bind_ok, seqK_nx]; exact k
def PIE : List (List Nat) := [[75, 69, 82, 78, 69, 76], [73, 78, 84], [76, 69, 84], [80, 73, 67, 75], [84, 73, 68], [88, 79, 82], [76, 69, 84, 83], [73], [97], [98, 55], [97, 98, 99, 100, 101, 102, 103, 104, 105, 106, 107, 108], [97, 98, 99, 100, 101, 102, 103, 104, 105, 106, 107, 108, 109], [120, 48], [48], [55], [48, 48, 55], [49, 50, 51, 52, 53, 54, 55, 56, 57, 48], [49, 50, 51, 52, 53, 54, 55, 56, 57, 48, 49], [35, 45, 53], [35, 45, 48], [35, 45], [35], [35, 45, 48, 48], [35, 45, 49, 50, 51, 52, 53, 54, 55, 56, 57, 48, 49]]
def PIF : List (List Nat) := [[40], [41], [123], [125], [91], [93], [44], [59], [61], [61, 61], [61, 61, 61], [43], [45], [42], [47], [38], [124], [94], [60, 60], [62, 62], [62], [60], [60, 61], [60, 60, 61], [33, 61], [126], [33], [33, 33], [46], [63], [95], [65, 49], [9]]
def SEPS : List (List Nat) := [[], [], [32], [10], [32, 32]]
theorem pick_strs {h : Hv} {i : Nat} {S : Strm} {L : List (List Nat)} (e : strmAt h i S) (h0 : 0 < L.length) (h1 : L.length < 1000000000000) : ∃ x S' , x ∈ L ∧ G_law_pick [.ref i, .fl (sV L)] h = .ok (.str x) (h.set i (strmC S')) ∧ S'.ok := by
  obtain ⟨k, hk, w⟩ := G_law_pick_of e (vs := sV L) (by rw [sV_len]; exact h0) (by rw [sV_len]; exact h1)
  rw [sV_len] at hk
  have e1 : (sV L)[k]'(by rw [sV_len]; exact hk) = .str L[k] := by unfold sV; rw [List.getElem_map]
  rw [e1] at w
  exact ⟨L[k], drawS S (sV L).length, List.getElem_mem hk, w, draw_ok e.2 (by rw [sV_len]; omega)⟩
theorem text_loop {i : Nat} {x0 x5 x6 x7 x8 : Option Val} : ∀ (vs : List Val) (S : Strm) (h : Hv) (t : List Nat) (x4 : Option Val), strmAt h i S → t.length + 20 * vs.length ≤ 100000 →
    ∃ t' S' h' z4, sForL (gNm 4) M_law_1 vs [x0, some (.ref i), some (.fl (sV (PIE ++ PIF))), some (.str t), x4, x5, x6, x7, x8] h = .ok (.nx [x0, some (.ref i), some (.fl (sV (PIE ++ PIF))), some (.str t'), z4, x5, x6, x7, x8]) h' ∧ strmAt h' i S' ∧ t'.length ≤ 100000
  | [], S, h, t, x4, e, hl => ⟨t, S, h, x4, rfl, e, by simpa using hl⟩
  | v :: vs, S, h, t, x4, e, hl => by
    rw [List.length_cons] at hl
    have hp : ∀ x ∈ PIE ++ PIF, x.length ≤ 15 := by decide
    have hq : ∀ x ∈ SEPS, x.length ≤ 2 := by decide
    obtain ⟨x, S1, hx, w1, o1⟩ := pick_strs e (L := PIE ++ PIF) (by decide) (by decide)
    have e1 := strm_set e o1
    obtain ⟨y, S2, hy, w2, o2⟩ := pick_strs e1 (L := SEPS) (by decide) (by decide)
    have e2 := strm_set e1 o2
    have lx := hp x hx
    have ly := hq y hy
    obtain ⟨t', S', h', z4, e3, e4, e5⟩ := text_loop (x0 := x0) (x5 := x5) (x6 := x6) (x7 := x7) (x8 := x8) vs S2 _ (t ++ x ++ y) (some v) e2 (by rw [List.length_append, List.length_append]; omega)
    refine ⟨t', S', h', z4, ?_, e4, e5⟩
    generalize (h.set i (strmC S1)).set i (strmC S2) = h2 at w2 e2 e3
    generalize h.set i (strmC S1) = h1 at w1 w2 e1
    have l1 : t.length + x.length ≤ 16777216 := by omega
    have l2 : (t ++ x).length + y.length ≤ 16777216 := by rw [List.length_append]; omega
    have a1 := fun h => gAdd_str (h := h) l1
    have a2 := fun h => gAdd_str (h := h) l2
    have st : M_law_1 [x0, some (.ref i), some (.fl (sV (PIE ++ PIF))), some (.str t), some v, x5, x6, x7, x8] h = .ok (.nx [x0, some (.ref i), some (.fl (sV (PIE ++ PIF))), some (.str (t ++ x ++ y)), some v, x5, x6, x7, x8]) h2 := by
      simp only [SEPS, sV, List.map_cons, List.map_nil] at w2
      generalize PIE ++ PIF = L at w1 ⊢
      simp only [M_law_1, sSet_app, sBin_app, sVar_app, List.getElem?_cons_succ, List.getElem?_cons_zero, getV_some, bind_ok, sCall_app, sCons_app, sNil_app, callF_2, w1, noX_ok, a1, sLst_app, sC_app, lstK, List.length_cons, List.length_nil, List.set_cons_succ, List.set_cons_zero]
      rw [if_pos (by decide), bind_ok, bind_ok, bind_ok, callF_2, w2, noX_ok, bind_ok, a2, bind_ok]
    rw [sForL_cons, gNm_app, bind_ok]
    simp only [List.set_cons_succ, List.set_cons_zero]
    rw [st, bind_ok]
    exact e3
theorem toks_len {t : List Nat} : ∀ (fuel k : Nat), (toksF fuel t k).length ≤ t.length - k
  | 0, k => Nat.zero_le _
  | fuel + 1, k => by
    unfold toksF
    by_cases hk : k < t.length
    · rw [if_pos hk]
      by_cases hs : t.getD k 0 ∈ ([32, 10] : List Nat)
      · rw [if_pos hs]
        have := toks_len (t := t) fuel (k + 1)
        omega
      · rw [if_neg hs, List.length_cons]
        by_cases hp : (tokP t k).1 = []
        · rw [if_pos hp, List.length_nil]; omega
        · rw [if_neg hp]
          have h1 := tok_pos hk hp
          have h2 := toks_len (t := t) fuel (k + (tokP t k).2.length)
          omega
    · rw [if_neg hk]; exact Nat.zero_le _
def dueV (p : List Nat × List Nat × Nat) : Val := if p.1 = [] then .tup [.str [], .non, .int p.2.2] else rowV p
def dueC : ST := sTest (sBin gLt (sVar 4) (sCall cLen (sCons (sVar 3) sNil)))
theorem due_loop {t : List Nat} (ht : t.length ≤ 1000000) {h : Hv} {x0 x1 x2 x7 x8 : Option Val} : ∀ (fuel k : Nat) (acc : List (List Nat × List Nat × Nat)) (x6 : Option Val), t.length - k < fuel → acc.length + (t.length - k) ≤ 1000000 →
    ∃ z4 z6, sWhile dueC M_law_2 fuel [x0, x1, x2, some (.str t), some (.int k), some (.ref h.length), x6, x7, x8] (h ++ [.lst (acc.map dueV)]) = .ok (.nx [x0, x1, x2, some (.str t), z4, some (.ref h.length), z6, x7, x8]) (h ++ [.lst ((acc ++ toksF fuel t k).map dueV)])
  | 0, k, acc, x6, hf, _ => absurd hf (Nat.not_lt_zero _)
  | fuel + 1, k, acc, x6, hf, hl => by
    have ht' : t.length ≤ 16777216 := Nat.le_trans ht (by decide)
    rw [sWhile_s]
    unfold toksF
    by_cases hk : k < t.length
    · have cd : dueC [x0, x1, x2, some (.str t), some (.int k), some (.ref h.length), x6, x7, x8] (h ++ [.lst (acc.map dueV)]) = .ok true (h ++ [.lst (acc.map dueV)]) := by
        simp [dueC, cLen_of ht', hk, -cLen_str]
      rw [cd, bind_ok, if_pos rfl, if_pos hk]
      have gx := fun h => gIx_str (h := h) ht' (getD_of hk)
      by_cases hs : t.getD k 0 ∈ ([32, 10] : List Nat)
      · rw [if_pos hs]
        have st : M_law_2 [x0, x1, x2, some (.str t), some (.int k), some (.ref h.length), x6, x7, x8] (h ++ [.lst (acc.map dueV)]) = .ok (.ct [x0, x1, x2, some (.str t), some (.int ((k + 1 : Nat) : Int)), some (.ref h.length), x6, x7, x8]) (h ++ [.lst (acc.map dueV)]) := by
          generalize t.getD k 0 = c at gx hs
          simp [M_law_2, gx, hs, -List.mem_cons]
        rw [st, bind_ok]
        exact due_loop ht fuel (k + 1) acc x6 (by omega) (by omega)
      · rw [if_neg hs]
        have gt := fun h => G_law_token_of (h := h) hk ht
        have lp : (tokP t k).2.length ≤ 16777216 := by have := tok_len (t := t) (k := k); omega
        have cl := fun h => cLen_of (h := h) lp
        have ap := fun v => appK_of (h := h ++ [.lst (acc.map dueV)]) (n := h.length) (v := v) (vs := acc.map dueV) (by rw [List.length_map]; omega)
        have tp := fun hn => tok_pos hk hn
        generalize tokP t k = p at *
        generalize t.getD k 0 = c at gx hs
        by_cases hp : p.1 = []
        · rw [if_pos hp] at gt ⊢
          have hd : dueV (p.1, p.2, k) = .tup [.str [], .non, .int k] := if_pos hp
          refine ⟨some (.int k), some .non, ?_⟩
          have st : M_law_2 [x0, x1, x2, some (.str t), some (.int k), some (.ref h.length), x6, x7, x8] (h ++ [.lst (acc.map dueV)]) = .ok (.bk [x0, x1, x2, some (.str t), some (.int k), some (.ref h.length), some .non, x7, x8]) (h ++ [.lst ((acc ++ [(p.1, p.2, k)]).map dueV)]) := by
            simp [M_law_2, gx, hs, gt, tupK, ap, set_new, hd, -List.mem_cons]
          rw [st, bind_ok]
          rfl
        · simp only [if_neg hp] at gt ⊢
          have hd : dueV (p.1, p.2, k) = .tup [.str p.1, .str p.2, .int k] := if_neg hp
          have t1 := tp hp
          have g0 : ∀ h, gIx (.tup [.str p.1, .str p.2]) (.int 0) h = .ok (.str p.1) h := fun _ => rfl
          have g1 : ∀ h, gIx (.tup [.str p.1, .str p.2]) (.int 1) h = .ok (.str p.2) h := fun _ => rfl
          have st : M_law_2 [x0, x1, x2, some (.str t), some (.int k), some (.ref h.length), x6, x7, x8] (h ++ [.lst (acc.map dueV)]) = .ok (.nx [x0, x1, x2, some (.str t), some (.int ((k + p.2.length : Nat) : Int)), some (.ref h.length), some (.tup [.str p.1, .str p.2]), x7, x8]) (h ++ [.lst ((acc ++ [(p.1, p.2, k)]).map dueV)]) := by
            simp [M_law_2, gx, hs, gt, tupK, ap, set_new, hd, cl, -List.mem_cons, -cLen_str]
          rw [st, bind_ok]
          obtain ⟨z4, z6, ih⟩ := due_loop ht (h := h) (x0 := x0) (x1 := x1) (x2 := x2) (x7 := x7) (x8 := x8) fuel (k + p.2.length) (acc ++ [(p.1, p.2, k)]) (some (.tup [.str p.1, .str p.2])) (by omega) (by rw [List.length_append, List.length_singleton]; omega)
          rw [List.append_assoc] at ih
          exact ⟨z4, z6, ih⟩
    · have cd : dueC [x0, x1, x2, some (.str t), some (.int k), some (.ref h.length), x6, x7, x8] (h ++ [.lst (acc.map dueV)]) = .ok false (h ++ [.lst (acc.map dueV)]) := by
        simp [dueC, cLen_of ht', hk, -cLen_str]
      rw [cd, bind_ok, if_neg Bool.false_ne_true, if_neg hk, List.append_nil]
      exact ⟨_, _, rfl⟩
theorem same_loop {h : Hv} {d : Nat} {L : List (List Nat × List Nat × Nat)} (hd : cellAt h d = some (.lst (L.map dueV))) {x0 x1 x2 x3 x4 x6 x8 : Option Val} :
    ∃ z8, sForL (gNm 8) M_law_3 (rangeV 0 L.length) [x0, x1, x2, x3, x4, some (.ref d), x6, some (.fl (L.map rowV)), x8] h = .ok (.nx [x0, x1, x2, x3, x4, some (.ref d), x6, some (.fl (L.map rowV)), z8]) h := by
  obtain ⟨f, h', e, s', rfl, ⟨z8, rfl⟩, rfl⟩ := for_ok (g := gNm 8) (b := M_law_3) (xs := rangeV 0 L.length) (sv := [x0, x1, x2, x3, x4, some (.ref d), x6, some (.fl (L.map rowV)), x8]) (h := h)
    (fun i s h' => (∃ z8, s = [x0, x1, x2, x3, x4, some (.ref d), x6, some (.fl (L.map rowV)), z8]) ∧ h' = h) ⟨⟨_, rfl⟩, rfl⟩ (fun i v s h' hv ⟨⟨z8, es⟩, eh⟩ => by
      subst es eh
      have hi : i < L.length := by
        have := (List.getElem?_eq_some_iff.mp hv).1
        simpa [rangeV] using this
      have ev : v = .int i := by
        have : (rangeV 0 L.length)[i]? = some (.int i) := by
          unfold rangeV
          rw [List.getElem?_map, List.getElem?_range hi]
          simp
        rw [this] at hv
        exact (Option.some.inj hv).symm
      subst ev
      have r1 : ∀ h, ixK (L.map rowV) (i : Int) h = .ok (rowV L[i]) h := fun h => ixK_nat (by rw [List.getElem?_map, List.getElem?_eq_getElem hi]; rfl)
      have r2 : ∀ h, ixK (L.map dueV) (i : Int) h = .ok (dueV L[i]) h := fun h => ixK_nat (by rw [List.getElem?_map, List.getElem?_eq_getElem hi]; rfl)
      generalize L[i] = p at r1 r2
      have st : M_law_3 [x0, x1, x2, x3, x4, some (.ref d), x6, some (.fl (L.map rowV)), some (.int i)] h' = .ok (.nx [x0, x1, x2, x3, x4, some (.ref d), x6, some (.fl (L.map rowV)), some (.int i)]) h' := by
        by_cases hp : p.1 = []
        · have e2 : dueV p = .tup [.str [], .non, .int p.2.2] := if_pos hp
          have e1 : rowV p = .tup [.str [], .str p.2.1, .int p.2.2] := by unfold rowV; rw [hp]
          rw [e1] at r1
          rw [e2] at r2
          simp [M_law_3, r1, r2, hd]
        · have e2 : dueV p = .tup [.str p.1, .str p.2.1, .int p.2.2] := if_neg hp
          have e1 : rowV p = .tup [.str p.1, .str p.2.1, .int p.2.2] := rfl
          rw [e1] at r1
          rw [e2] at r2
          simp [M_law_3, r1, r2, hd, hp]
      exact ⟨_, _, rfl, _, _, st, _, .inl rfl, ⟨_, rfl⟩, rfl⟩)
  exact ⟨z8, e⟩
theorem law_true {xs : List Int} (hl : xs.length ≤ 63) (h : Hv) : Ok (M_law [.kl (iV xs)] h) fun v _ => v = .bl true := by
  have e0 : strmAt (h ++ [strmC (newS xs)]) h.length (newS xs) := ⟨cellAt_new, newS_ok hl⟩
  have s0 := stream_spec (h := h) hl
  unfold M_law
  rw [sFn_1]
  show Ok (fin (M_law_b [some (.kl (iV xs)), none, none, none, none, none, none, none, none] h)) _
  unfold M_law_b
  refine seq_eq (s := [some (.kl (iV xs)), some (.ref h.length), none, none, none, none, none, none, none]) (h' := h ++ [strmC (newS xs)]) (by simp [s0]) ?_
  have hi : h.length < (h ++ [strmC (newS xs)]).length := by simp
  generalize newS xs = S0 at e0 hi ⊢
  generalize h.length = i at e0 hi ⊢
  generalize h ++ [strmC S0] = h0 at e0 hi ⊢
  refine seq_eq (s := [some (.kl (iV xs)), some (.ref i), some (.ref h0.length), none, none, none, none, none, none]) (h' := h0 ++ [.lst (sV PIE)]) (by simp [lstNK, sV, PIE]) ?_
  refine seq_eq (s := [some (.kl (iV xs)), some (.ref i), some (.ref h0.length), none, none, none, none, none, none]) (h' := h0 ++ [.lst (sV (PIE ++ PIF))]) (by
    have ex : extK h0.length (sV PIF) (sV PIE) (h0 ++ [.lst (sV PIE)]) = .ok .non (h0 ++ [.lst (sV (PIE ++ PIF))]) := by
      unfold extK
      rw [if_pos (by decide), set_new]
      rfl
    simp only [sV, PIF, List.map_cons, List.map_nil] at ex ⊢
    simp [lstK, ex]) ?_
  refine seq_eq (s := [some (.kl (iV xs)), some (.ref i), some (.fl (sV (PIE ++ PIF))), none, none, none, none, none, none]) (h' := h0 ++ [.dead]) (by simp [set_new]) ?_
  have e1 : strmAt (h0 ++ [.dead]) i S0 := ⟨by rw [cellAt_old hi]; exact e0.1, e0.2⟩
  generalize h0 ++ [Cell.dead] = h1 at e1
  refine seq_eq (s := [some (.kl (iV xs)), some (.ref i), some (.fl (sV (PIE ++ PIF))), some (.str []), none, none, none, none, none]) (h' := h1) (by simp) ?_
  obtain ⟨n, en, hn⟩ := draw_nat (S := S0) (n := 14) (by decide)
  have w1 := draw_spec e1 (n := 14) (by decide) (by decide)
  have e2 := strm_set e1 (draw_ok (n := 14) e1.2 (by decide))
  rw [en] at w1
  generalize drawS S0 14 = S1 at w1 e2
  generalize h1.set i (strmC S1) = h2 at w1 e2
  obtain ⟨t, S3, h3, z4, tl, e3, ht⟩ := text_loop (x0 := some (.kl (iV xs))) (x5 := none) (x6 := none) (x7 := none) (x8 := none) (rangeV 0 n) S1 h2 [] none e2 (by rw [show (rangeV 0 n).length = n by simp [rangeV]]; simp; omega)
  refine seq_eq (s := [some (.kl (iV xs)), some (.ref i), some (.fl (sV (PIE ++ PIF))), some (.str t), z4, none, none, none, none]) (h' := h3) (by
    rw [sFor_app, iRange1_app, sCall_app, sCons_app, sVar_app]
    show R.bind (R.bind (R.bind (R.bind (getV (some (some (.ref i))) h1) _) _) _) _ = _
    rw [getV_some, bind_ok, sCons_app, sC_app, bind_ok, sNil_app, bind_ok, bind_ok, bind_ok, callF_2, w1, noX_ok, bind_ok, rg1K_of (by omega), bind_ok]
    exact tl) ?_
  refine seq_eq (s := [some (.kl (iV xs)), some (.ref i), some (.fl (sV (PIE ++ PIF))), some (.str t), z4, some (.ref h3.length), none, none, none]) (h' := h3 ++ [.lst []]) (by simp [lstNK]) ?_
  refine seq_eq (s := [some (.kl (iV xs)), some (.ref i), some (.fl (sV (PIE ++ PIF))), some (.str t), some (.int ((0 : Nat) : Int)), some (.ref h3.length), none, none, none]) (h' := h3 ++ [.lst []]) (by simp) ?_
  have ht2 : t.length ≤ 1000000 := Nat.le_trans ht (by decide)
  obtain ⟨y4, y6, dl⟩ := due_loop ht2 (h := h3) (x0 := some (.kl (iV xs))) (x1 := some (.ref i)) (x2 := some (.fl (sV (PIE ++ PIF)))) (x7 := none) (x8 := none) bigN 0 [] none (big_lt (by omega)) (by simpa using ht2)
  rw [List.nil_append] at dl
  refine seq_eq (s := [some (.kl (iV xs)), some (.ref i), some (.fl (sV (PIE ++ PIF))), some (.str t), y4, some (.ref h3.length), y6, none, none]) (h' := h3 ++ [Cell.lst ((toksF bigN t 0).map dueV)]) (by exact dl) ?_
  have gt := fun h => G_tokens_of (h := h) ht2
  have hL : (toksF bigN t 0).length < 4611686018427387904 := by have := toks_len (t := t) bigN 0; omega
  generalize toksF bigN t 0 = L at gt hL
  refine seq_eq (s := [some (.kl (iV xs)), some (.ref i), some (.fl (sV (PIE ++ PIF))), some (.str t), y4, some (.ref h3.length), y6, some (.fl (L.map rowV)), none]) (h' := h3 ++ [.lst (L.map dueV)]) (by simp [gt]) ?_
  refine seq_eq (s := [some (.kl (iV xs)), some (.ref i), some (.fl (sV (PIE ++ PIF))), some (.str t), y4, some (.ref h3.length), y6, some (.fl (L.map rowV)), none]) (h' := h3 ++ [.lst (L.map dueV)]) (by simp) ?_
  have hc : cellAt (h3 ++ [.lst (L.map dueV)]) h3.length = some (.lst (L.map dueV)) := cellAt_new
  obtain ⟨y8, sl⟩ := same_loop hc (x0 := some (.kl (iV xs))) (x1 := some (.ref i)) (x2 := some (.fl (sV (PIE ++ PIF)))) (x3 := some (.str t)) (x4 := y4) (x6 := y6) (x8 := none)
  refine seq_eq (s := [some (.kl (iV xs)), some (.ref i), some (.fl (sV (PIE ++ PIF))), some (.str t), y4, some (.ref h3.length), y6, some (.fl (L.map rowV)), y8]) (h' := h3 ++ [Cell.lst (L.map dueV)]) (by
      rw [sFor_app, iRange1_app, sCall_app, sCons_app, sVar_app]
      show R.bind (R.bind (R.bind (R.bind (getV (some (some (.ref h3.length))) (h3 ++ [.lst (L.map dueV)])) _) _) _) _ = _
      rw [getV_some, bind_ok, sNil_app, bind_ok, bind_ok, cLen_ref, hc, lstK?_lst, bind_ok, List.length_map, rg1K_of hL, bind_ok]
      exact sl) ?_
  exact ⟨_, _, rfl, rfl⟩
end Lw

set_option Elab.async false
set_option linter.all false
set_option maxRecDepth 100000
set_option maxHeartbeats 4000000
namespace Lw
open PySem PySem.Spec L2 Sx
open PyProof.Rows hiding St
def topS (i : Nat) : Stmt := PySem.Challenge.pw_drawever_k28_whole_tokens.main.body.getD i (.Pass ⟨0, 0, 0, 0⟩)
structure Txt (K : PySem.W.Frag) (mg : Str → Option Value) : Prop where
  b_abs : mg "abs" = none
  b_all : mg "all" = none
  b_bool : mg "bool" = none
  b_int : mg "int" = none
  b_isinstance : mg "isinstance" = none
  b_len : mg "len" = none
  b_list : mg "list" = none
  b_range : mg "range" = none
  b_str : mg "str" = none
  b_tuple : mg "tuple" = none
  c_SMALL : KConst K mg "SMALL" c_SMALL
  c_DIGITS : KConst K mg "DIGITS" c_DIGITS
  c_MOST_NAME : KConst K mg "MOST_NAME" c_MOST_NAME
  c_MOST_DIGITS : KConst K mg "MOST_DIGITS" c_MOST_DIGITS
  c_CAPITALS : KConst K mg "CAPITALS" c_CAPITALS
  c_KEYS : KConst K mg "KEYS" c_KEYS
  c_SYMBOLS : KConst K mg "SYMBOLS" c_SYMBOLS
abbrev s_law_stream : Stmt := topS 13
abbrev n_law_stream : List Str := ["script", "mixed", "cell"]
abbrev p_law_stream : List Str := ["script"]
theorem sc_law_stream : FnScope n_law_stream p_law_stream (defScope s_law_stream) := ⟨rfl, rfl, rfl, by decide +kernel, rfl, by decide +kernel, by decide +kernel⟩
abbrev s_law_draw : Stmt := topS 14
abbrev n_law_draw : List Str := ["stream", "many", "value"]
abbrev p_law_draw : List Str := ["stream", "many"]
theorem sc_law_draw : FnScope n_law_draw p_law_draw (defScope s_law_draw) := ⟨rfl, rfl, rfl, by decide +kernel, rfl, by decide +kernel, by decide +kernel⟩
abbrev s_law_pick : Stmt := topS 15
abbrev n_law_pick : List Str := ["stream", "rows"]
abbrev p_law_pick : List Str := ["stream", "rows"]
theorem sc_law_pick : FnScope n_law_pick p_law_pick (defScope s_law_pick) := ⟨rfl, rfl, rfl, by decide +kernel, rfl, by decide +kernel, by decide +kernel⟩
abbrev s_law_stretch : Stmt := topS 17
abbrev n_law_stretch : List Str := ["text", "k", "signs", "end"]
abbrev p_law_stretch : List Str := ["text", "k", "signs"]
theorem sc_law_stretch : FnScope n_law_stretch p_law_stretch (defScope s_law_stretch) := ⟨rfl, rfl, rfl, by decide +kernel, rfl, by decide +kernel, by decide +kernel⟩
abbrev s_law_token : Stmt := topS 18
abbrev n_law_token : List Str := ["text", "k", "keys", "small", "word", "size"]
abbrev p_law_token : List Str := ["text", "k"]
theorem sc_law_token : FnScope n_law_token p_law_token (defScope s_law_token) := ⟨rfl, rfl, rfl, by decide +kernel, rfl, by decide +kernel, by decide +kernel⟩
abbrev s_run_of : Stmt := topS 8
abbrev n_run_of : List Str := ["text", "at", "signs", "end"]
abbrev p_run_of : List Str := ["text", "at", "signs"]
theorem sc_run_of : FnScope n_run_of p_run_of (defScope s_run_of) := ⟨rfl, rfl, rfl, by decide +kernel, rfl, by decide +kernel, by decide +kernel⟩
abbrev s_symbol_at : Stmt := topS 9
abbrev n_symbol_at : List Str := ["text", "at", "symbol"]
abbrev p_symbol_at : List Str := ["text", "at"]
theorem sc_symbol_at : FnScope n_symbol_at p_symbol_at (defScope s_symbol_at) := ⟨rfl, rfl, rfl, by decide +kernel, rfl, by decide +kernel, by decide +kernel⟩
abbrev s_token_at : Stmt := topS 10
abbrev n_token_at : List Str := ["text", "at", "sign", "found", "digits"]
abbrev p_token_at : List Str := ["text", "at"]
theorem sc_token_at : FnScope n_token_at p_token_at (defScope s_token_at) := ⟨rfl, rfl, rfl, by decide +kernel, rfl, by decide +kernel, by decide +kernel⟩
abbrev s_tokens : Stmt := topS 11
abbrev n_tokens : List Str := ["text", "found", "at", "kind", "part"]
abbrev p_tokens : List Str := ["text"]
theorem sc_tokens : FnScope n_tokens p_tokens (defScope s_tokens) := ⟨rfl, rfl, rfl, by decide +kernel, rfl, by decide +kernel, by decide +kernel⟩
abbrev s_law_same : Stmt := topS 16
abbrev n_law_same : List Str := ["told", "due", "k"]
abbrev p_law_same : List Str := ["told", "due"]
theorem sc_law_same : FnScope n_law_same p_law_same (defScope s_law_same) := ⟨rfl, rfl, rfl, by decide +kernel, rfl, by decide +kernel, by decide +kernel⟩
abbrev s_law : Stmt := topS 19
abbrev n_law : List Str := ["script", "stream", "pieces", "text", "k", "due", "one", "told", "j"]
abbrev p_law : List Str := ["script"]
theorem sc_law : FnScope n_law p_law (defScope s_law) := ⟨rfl, rfl, rfl, by decide +kernel, rfl, by decide +kernel, by decide +kernel⟩
section
variable {P : Program} {w : World} {K : PySem.W.Frag} {mg : Str → Option Value} {base : Heap} {cm : Nat → Addr}
theorem fn_law_stream {f : Addr} {fd : FuncData} (F : Fun K "_law_stream" "_law_stream" s_law_stream f fd) (T : Txt K mg)  : FnS P w K mg base cm 1 f fd p_law_stream M_law_stream :=
  fn_body F sc_law_stream fun cdv A outer s H E hr => show JB _ cm W0 (defBody s_law_stream) _ from (jb_cons (js_set (i := 1) sc_law_stream.nd rfl (by first | exact Or.inl rfl | exact Or.inr rfl) je_int) (jb_cons (js_for (own := [2]) PassesOwn.never rfl (ji_seq (je_var 0)) (jg_name (i := 2) (by decide) sc_law_stream.nd rfl (by first | exact Or.inl rfl | exact Or.inr rfl)) (jb_one (js_set (i := 1) sc_law_stream.nd rfl (by first | exact Or.inl rfl | exact Or.inr rfl) (je_bin op_mod os_mod (je_callTy call_int1 cs_int (by rfl) T.b_int (by decide +kernel) (ja_cons (je_bin op_add' os_add (je_bin op_add' os_add (je_bin op_mul os_mul (je_var 1) je_int) (je_bin op_mod os_mod (je_callTy call_int1 cs_int (by rfl) T.b_int (by decide +kernel) (ja_cons (je_var 2) ja_nil)) je_int)) je_int) ja_nil)) je_int)))) (jb_one (js_ret (je_lstN (ja_cons (je_callTy call_list_of cs_list (by rfl) T.b_list (by decide +kernel) (ja_cons (je_var 0) ja_nil)) (ja_cons je_int (ja_cons je_int (ja_cons (je_var 1) ja_nil)))))))))
theorem fn_law_draw {f : Addr} {fd : FuncData} (F : Fun K "_law_draw" "_law_draw" s_law_draw f fd) (T : Txt K mg)  : FnS P w K mg base cm 1 f fd p_law_draw M_law_draw :=
  fn_body F sc_law_draw fun cdv A outer s H E hr => show JB _ cm W0 (defBody s_law_draw) _ from (jb_cons (js_if (jt_w (jw_and (jt_cmp (op_eq' hr.units) os_eq (je_ix (je_var 0) je_int) je_int (by rfl)) (jw_and1 (jt_cmp op_lt os_lt (je_ix (je_var 0) je_int) (je_callB call_len cs_len (by rfl) T.b_len (by decide +kernel) (ja_cons (je_ix (je_var 0) je_int) ja_nil)) (by rfl))))) (jb_cons (js_asg (own := []) (je_callB call_abs cs_abs (by rfl) T.b_abs (by decide +kernel) (ja_cons (je_callTy call_int1 cs_int (by rfl) T.b_int (by decide +kernel) (ja_cons (je_ix (je_ix (je_var 0) je_int) (je_ix (je_var 0) je_int)) ja_nil)) ja_nil)) (jg_sub (je_var 0) je_int)) (jb_one (js_asg (own := []) (je_bin op_add' os_add (je_ix (je_var 0) je_int) je_int) (jg_sub (je_var 0) je_int)))) jb_nil) (jb_cons (js_if (jt_cmp (op_eq' hr.units) os_eq (je_ix (je_var 0) je_int) je_int (by rfl)) (jb_cons (js_asg (own := []) (je_bin op_mod os_mod (je_callTy call_int1 cs_int (by rfl) T.b_int (by decide +kernel) (ja_cons (je_bin op_add' os_add (je_bin op_mul os_mul (je_ix (je_var 0) je_int) je_int) je_int) ja_nil)) je_int) (jg_sub (je_var 0) je_int)) (jb_one (js_ret (je_bin op_mod os_mod (je_callTy call_int1 cs_int (by rfl) T.b_int (by decide +kernel) (ja_cons (je_bin op_fdivW os_div (je_ix (je_var 0) je_int) je_int) ja_nil)) (je_var 1))))) jb_nil) (jb_cons (js_set (i := 2) sc_law_draw.nd rfl (by first | exact Or.inl rfl | exact Or.inr rfl) (je_bin op_mod os_mod (je_callTy call_int1 cs_int (by rfl) T.b_int (by decide +kernel) (ja_cons (je_ix (je_var 0) je_int) ja_nil)) (je_var 1))) (jb_cons (js_asg (own := []) (je_bin op_fdivW os_div (je_ix (je_var 0) je_int) (je_var 1)) (jg_sub (je_var 0) je_int)) (jb_one (js_ret (je_var 2)))))))
theorem fn_law_pick {f : Addr} {fd : FuncData} (F : Fun K "_law_pick" "_law_pick" s_law_pick f fd) (T : Txt K mg) (c_law_draw : Cal P w K mg base cm 1 "_law_draw" 2 G_law_draw) : FnS P w K mg base cm 2 f fd p_law_pick M_law_pick :=
  fn_body F sc_law_pick fun cdv A outer s H E hr => show JB _ cm W0 (defBody s_law_pick) _ from (jb_one (js_ret (je_ix (je_var 1) (je_fn c_law_draw hr (by decide) (by rfl) (ja_cons (je_var 0) (ja_cons (je_callB call_len cs_len (by rfl) T.b_len (by decide +kernel) (ja_cons (je_var 1) ja_nil)) ja_nil))))))
theorem fn_law_stretch {f : Addr} {fd : FuncData} (F : Fun K "_law_stretch" "_law_stretch" s_law_stretch f fd) (T : Txt K mg)  : FnS P w K mg base cm 1 f fd p_law_stretch M_law_stretch :=
  fn_body F sc_law_stretch fun cdv A outer s H E hr => show JB _ cm W0 (defBody s_law_stretch) _ from (jb_cons (js_set (i := 3) sc_law_stretch.nd rfl (by first | exact Or.inl rfl | exact Or.inr rfl) (je_var 1)) (jb_cons (js_while bigN PassesOwn.never (jt_w (jw_and (jt_cmp op_lt os_lt (je_var 3) (je_callB call_len cs_len (by rfl) T.b_len (by decide +kernel) (ja_cons (je_var 0) ja_nil)) (by rfl)) (jw_and1 (jt_cmp op_inT os_inT (je_ix (je_var 0) (je_var 3)) (je_var 2) (by rfl))))) (jb_one (js_set (i := 3) sc_law_stretch.nd rfl (by first | exact Or.inl rfl | exact Or.inr rfl) (je_bin op_add' os_add (je_var 3) je_int)))) (jb_one (js_ret (je_sl (je_var 0) (jo_some (je_var 1)) (jo_some (je_var 3)))))))
theorem fn_law_token {f : Addr} {fd : FuncData} (F : Fun K "_law_token" "_law_token" s_law_token f fd) (T : Txt K mg) (c_law_stretch : Cal P w K mg base cm 1 "_law_stretch" 3 G_law_stretch) : FnS P w K mg base cm 2 f fd p_law_token M_law_token :=
  fn_body F sc_law_token fun cdv A outer s H E hr => show JB _ cm W0 (defBody s_law_token) _ from (jb_cons (js_set (i := 2) sc_law_token.nd rfl (by first | exact Or.inl rfl | exact Or.inr rfl) (je_sm1 PySem.F.slot_str_split PySem.F.type_str_split mt_split ms_split (je_str (by decide +kernel)) (je_str (by decide +kernel)))) (jb_cons (js_set (i := 3) sc_law_token.nd rfl (by first | exact Or.inl rfl | exact Or.inr rfl) (je_str (by decide +kernel))) (jb_cons (js_if (jt_cmp op_inT os_inT (je_ix (je_var 0) (je_var 1)) (je_var 3) (by rfl)) (jb_cons (js_set (i := 4) sc_law_token.nd rfl (by first | exact Or.inl rfl | exact Or.inr rfl) (je_fn c_law_stretch hr (by decide) (by rfl) (ja_cons (je_var 0) (ja_cons (je_var 1) (ja_cons (je_bin op_add' os_add (je_var 3) (je_str (by decide +kernel))) ja_nil))))) (jb_one (js_ret (je_if (jt_cmp op_le os_le (je_callB call_len cs_len (by rfl) T.b_len (by decide +kernel) (ja_cons (je_var 4) ja_nil)) je_int (by rfl)) (je_tup (ja_cons (je_str (by decide +kernel)) (ja_cons (je_var 4) ja_nil))) je_non)))) jb_nil) (jb_cons (js_if (jt_cmp op_inT os_inT (je_ix (je_var 0) (je_var 1)) (je_str (by decide +kernel)) (by rfl)) (jb_cons (js_set (i := 4) sc_law_token.nd rfl (by first | exact Or.inl rfl | exact Or.inr rfl) (je_fn c_law_stretch hr (by decide) (by rfl) (ja_cons (je_var 0) (ja_cons (je_var 1) (ja_cons (je_str (by decide +kernel)) ja_nil))))) (jb_one (js_ret (je_if (jt_cmp op_le os_le (je_callB call_len cs_len (by rfl) T.b_len (by decide +kernel) (ja_cons (je_var 4) ja_nil)) je_int (by rfl)) (je_tup (ja_cons (je_str (by decide +kernel)) (ja_cons (je_var 4) ja_nil))) je_non)))) jb_nil) (jb_cons (js_if (jt_cmp op_inT os_inT (je_ix (je_var 0) (je_var 1)) (je_sm0 PySem.F.slot_str_upper PySem.F.type_str_upper mt_upper ms_upper (je_var 3)) (by rfl)) (jb_cons (js_set (i := 4) sc_law_token.nd rfl (by first | exact Or.inl rfl | exact Or.inr rfl) (je_fn c_law_stretch hr (by decide) (by rfl) (ja_cons (je_var 0) (ja_cons (je_var 1) (ja_cons (je_sm0 PySem.F.slot_str_upper PySem.F.type_str_upper mt_upper ms_upper (je_var 3)) ja_nil))))) (jb_one (js_ret (je_if (jt_cmp op_inT os_inT (je_var 4) (je_var 2) (by rfl)) (je_tup (ja_cons (je_str (by decide +kernel)) (ja_cons (je_var 4) ja_nil))) je_non)))) jb_nil) (jb_cons (js_if (jt_cmp (op_eq' hr.units) os_eq (je_sl (je_var 0) (jo_some (je_var 1)) (jo_some (je_bin op_add' os_add (je_var 1) je_int))) (je_str (by decide +kernel)) (by rfl)) (jb_cons (js_set (i := 4) sc_law_token.nd rfl (by first | exact Or.inl rfl | exact Or.inr rfl) (je_fn c_law_stretch hr (by decide) (by rfl) (ja_cons (je_var 0) (ja_cons (je_bin op_add' os_add (je_var 1) je_int) (ja_cons (je_str (by decide +kernel)) ja_nil))))) (jb_one (js_ret (je_if (jt_w (jw_and (jt_chain op_le os_le op_le os_le je_int (je_callB call_len cs_len (by rfl) T.b_len (by decide +kernel) (ja_cons (je_var 4) ja_nil)) je_int) (jw_and1 (jt_tru (je_sm1 PySem.F.slot_str_strip PySem.F.type_str_strip mt_stripChars ms_strip (je_var 4) (je_str (by decide +kernel))))))) (je_tup (ja_cons (je_str (by decide +kernel)) (ja_cons (je_bin op_add' os_add (je_str (by decide +kernel)) (je_var 4)) ja_nil))) je_non)))) jb_nil) (jb_cons (js_for (own := [5]) PassesOwn.never rfl (ji_seq (je_lst (ja_cons je_int (ja_cons je_int ja_nil)))) (jg_name (i := 5) (by decide) sc_law_token.nd rfl (by first | exact Or.inl rfl | exact Or.inr rfl)) (jb_one (js_if (jt_w (jw_and (jt_cmp (op_eq' hr.units) os_eq (je_callB call_len cs_len (by rfl) T.b_len (by decide +kernel) (ja_cons (je_sl (je_var 0) (jo_some (je_var 1)) (jo_some (je_bin op_add' os_add (je_var 1) (je_var 5)))) ja_nil)) (je_var 5) (by rfl)) (jw_and1 (jt_cmp op_inT os_inT (je_sl (je_var 0) (jo_some (je_var 1)) (jo_some (je_bin op_add' os_add (je_var 1) (je_var 5)))) (je_lst (ja_cons (je_str (by decide +kernel)) (ja_cons (je_str (by decide +kernel)) (ja_cons (je_str (by decide +kernel)) (ja_cons (je_str (by decide +kernel)) (ja_cons (je_str (by decide +kernel)) (ja_cons (je_str (by decide +kernel)) (ja_cons (je_str (by decide +kernel)) (ja_cons (je_str (by decide +kernel)) (ja_cons (je_str (by decide +kernel)) (ja_cons (je_str (by decide +kernel)) (ja_cons (je_str (by decide +kernel)) (ja_cons (je_str (by decide +kernel)) (ja_cons (je_str (by decide +kernel)) (ja_cons (je_str (by decide +kernel)) (ja_cons (je_str (by decide +kernel)) (ja_cons (je_str (by decide +kernel)) (ja_cons (je_str (by decide +kernel)) (ja_cons (je_str (by decide +kernel)) (ja_cons (je_str (by decide +kernel)) (ja_cons (je_str (by decide +kernel)) (ja_cons (je_str (by decide +kernel)) (ja_cons (je_str (by decide +kernel)) (ja_cons (je_str (by decide +kernel)) (ja_cons (je_str (by decide +kernel)) ja_nil))))))))))))))))))))))))) (by rfl))))) (jb_one (js_ret (je_if (jt_cmp (op_eq' hr.units) os_eq (je_callB call_len cs_len (by rfl) T.b_len (by decide +kernel) (ja_cons (je_sl (je_var 0) (jo_some (je_var 1)) (jo_some (je_bin op_add' os_add (je_var 1) (je_var 5)))) ja_nil)) (je_var 5) (by rfl)) (je_tup (ja_cons (je_str (by decide +kernel)) (ja_cons (je_sl (je_var 0) (jo_some (je_var 1)) (jo_some (je_bin op_add' os_add (je_var 1) (je_var 5)))) ja_nil))) je_non))) jb_nil))) (jb_one (js_ret je_non)))))))))
theorem fn_run_of {f : Addr} {fd : FuncData} (F : Fun K "run_of" "run_of" s_run_of f fd) (T : Txt K mg)  : FnS P w K mg base cm 1 f fd p_run_of M_run_of :=
  fn_body F sc_run_of fun cdv A outer s H E hr => show JB _ cm W0 (defBody s_run_of) _ from (jb_cons (js_set (i := 3) sc_run_of.nd rfl (by first | exact Or.inl rfl | exact Or.inr rfl) (je_var 1)) (jb_cons (js_while bigN PassesOwn.never (jt_w (jw_and (jt_cmp op_lt os_lt (je_var 3) (je_callB call_len cs_len (by rfl) T.b_len (by decide +kernel) (ja_cons (je_var 0) ja_nil)) (by rfl)) (jw_and1 (jt_cmp op_inT os_inT (je_ix (je_var 0) (je_var 3)) (je_var 2) (by rfl))))) (jb_one (js_aug (i := 3) sc_run_of.nd rfl (by first | exact Or.inl rfl | exact Or.inr rfl) je_int pi_add os_iadd))) (jb_one (js_ret (je_sl (je_var 0) (jo_some (je_var 1)) (jo_some (je_var 3)))))))
theorem fn_symbol_at {f : Addr} {fd : FuncData} (F : Fun K "symbol_at" "symbol_at" s_symbol_at f fd) (T : Txt K mg)  : FnS P w K mg base cm 1 f fd p_symbol_at M_symbol_at :=
  fn_body F sc_symbol_at fun cdv A outer s H E hr => show JB _ cm W0 (defBody s_symbol_at) _ from (jb_cons (js_for (own := [2]) PassesOwn.never rfl (ji_seq (T.c_SYMBOLS.je (by rfl))) (jg_name (i := 2) (by decide) sc_symbol_at.nd rfl (by first | exact Or.inl rfl | exact Or.inr rfl)) (jb_one (js_if (jt_cmp (op_eq' hr.units) os_eq (je_sl (je_var 0) (jo_some (je_var 1)) (jo_some (je_bin op_add' os_add (je_var 1) (je_callB call_len cs_len (by rfl) T.b_len (by decide +kernel) (ja_cons (je_var 2) ja_nil))))) (je_var 2) (by rfl)) (jb_one (js_ret (je_var 2))) jb_nil))) (jb_one (js_ret (je_str (by decide +kernel)))))
theorem fn_token_at {f : Addr} {fd : FuncData} (F : Fun K "token_at" "token_at" s_token_at f fd) (T : Txt K mg) (c_run_of : Cal P w K mg base cm 1 "run_of" 3 G_run_of) (c_symbol_at : Cal P w K mg base cm 1 "symbol_at" 2 G_symbol_at) : FnS P w K mg base cm 2 f fd p_token_at M_token_at :=
  fn_body F sc_token_at fun cdv A outer s H E hr => show JB _ cm W0 (defBody s_token_at) _ from (jb_cons (js_set (i := 2) sc_token_at.nd rfl (by first | exact Or.inl rfl | exact Or.inr rfl) (je_ix (je_var 0) (je_var 1))) (jb_cons (js_if (jt_cmp op_inT os_inT (je_var 2) (T.c_SMALL.je (by rfl)) (by rfl)) (jb_cons (js_set (i := 3) sc_token_at.nd rfl (by first | exact Or.inl rfl | exact Or.inr rfl) (je_fn c_run_of hr (by decide) (by rfl) (ja_cons (je_var 0) (ja_cons (je_var 1) (ja_cons (je_bin op_add' os_add (T.c_SMALL.je (by rfl)) (T.c_DIGITS.je (by rfl))) ja_nil))))) (jb_one (js_ret (je_tup (ja_cons (je_if (jt_cmp op_le os_le (je_callB call_len cs_len (by rfl) T.b_len (by decide +kernel) (ja_cons (je_var 3) ja_nil)) (T.c_MOST_NAME.je (by rfl)) (by rfl)) (je_str (by decide +kernel)) (je_str (by decide +kernel))) (ja_cons (je_var 3) ja_nil)))))) jb_nil) (jb_cons (js_if (jt_cmp op_inT os_inT (je_var 2) (T.c_DIGITS.je (by rfl)) (by rfl)) (jb_cons (js_set (i := 3) sc_token_at.nd rfl (by first | exact Or.inl rfl | exact Or.inr rfl) (je_fn c_run_of hr (by decide) (by rfl) (ja_cons (je_var 0) (ja_cons (je_var 1) (ja_cons (T.c_DIGITS.je (by rfl)) ja_nil))))) (jb_one (js_ret (je_tup (ja_cons (je_if (jt_cmp op_le os_le (je_callB call_len cs_len (by rfl) T.b_len (by decide +kernel) (ja_cons (je_var 3) ja_nil)) (T.c_MOST_DIGITS.je (by rfl)) (by rfl)) (je_str (by decide +kernel)) (je_str (by decide +kernel))) (ja_cons (je_var 3) ja_nil)))))) jb_nil) (jb_cons (js_if (jt_cmp op_inT os_inT (je_var 2) (T.c_CAPITALS.je (by rfl)) (by rfl)) (jb_cons (js_set (i := 3) sc_token_at.nd rfl (by first | exact Or.inl rfl | exact Or.inr rfl) (je_fn c_run_of hr (by decide) (by rfl) (ja_cons (je_var 0) (ja_cons (je_var 1) (ja_cons (T.c_CAPITALS.je (by rfl)) ja_nil))))) (jb_one (js_ret (je_tup (ja_cons (je_if (jt_cmp op_inT os_inT (je_var 3) (T.c_KEYS.je (by rfl)) (by rfl)) (je_str (by decide +kernel)) (je_str (by decide +kernel))) (ja_cons (je_var 3) ja_nil)))))) jb_nil) (jb_cons (js_if (jt_cmp (op_eq' hr.units) os_eq (je_sl (je_var 0) (jo_some (je_var 1)) (jo_some (je_bin op_add' os_add (je_var 1) je_int))) (je_str (by decide +kernel)) (by rfl)) (jb_cons (js_set (i := 4) sc_token_at.nd rfl (by first | exact Or.inl rfl | exact Or.inr rfl) (je_fn c_run_of hr (by decide) (by rfl) (ja_cons (je_var 0) (ja_cons (je_bin op_add' os_add (je_var 1) je_int) (ja_cons (T.c_DIGITS.je (by rfl)) ja_nil))))) (jb_one (js_ret (je_tup (ja_cons (je_if (jt_w (jw_and (jt_tru (je_sm1 PySem.F.slot_str_strip PySem.F.type_str_strip mt_stripChars ms_strip (je_var 4) (je_str (by decide +kernel)))) (jw_and1 (jt_cmp op_le os_le (je_callB call_len cs_len (by rfl) T.b_len (by decide +kernel) (ja_cons (je_var 4) ja_nil)) (T.c_MOST_DIGITS.je (by rfl)) (by rfl))))) (je_str (by decide +kernel)) (je_str (by decide +kernel))) (ja_cons (je_bin op_add' os_add (je_str (by decide +kernel)) (je_var 4)) ja_nil)))))) jb_nil) (jb_cons (js_set (i := 3) sc_token_at.nd rfl (by first | exact Or.inl rfl | exact Or.inr rfl) (je_fn c_symbol_at hr (by decide) (by rfl) (ja_cons (je_var 0) (ja_cons (je_var 1) ja_nil)))) (jb_one (js_ret (je_tup (ja_cons (je_if (jt_tru (je_var 3)) (je_str (by decide +kernel)) (je_str (by decide +kernel))) (ja_cons (je_var 3) ja_nil)))))))))))
theorem fn_tokens {f : Addr} {fd : FuncData} (F : Fun K "tokens" "tokens" s_tokens f fd) (T : Txt K mg) (c_token_at : Cal P w K mg base cm 2 "token_at" 2 G_token_at) : FnS P w K mg base cm 3 f fd p_tokens M_tokens :=
  fn_body F sc_tokens fun cdv A outer s H E hr => show JB _ cm W0 (defBody s_tokens) _ from (jb_cons (js_set (i := 1) sc_tokens.nd rfl (by first | exact Or.inl rfl | exact Or.inr rfl) (je_lstN ja_nil)) (jb_cons (js_set (i := 2) sc_tokens.nd rfl (by first | exact Or.inl rfl | exact Or.inr rfl) je_int) (jb_cons (js_while bigN PassesOwn.never (jt_cmp op_lt os_lt (je_var 2) (je_callB call_len cs_len (by rfl) T.b_len (by decide +kernel) (ja_cons (je_var 0) ja_nil)) (by rfl)) (jb_cons (js_if (jt_cmp op_inT os_inT (je_ix (je_var 0) (je_var 2)) (je_str (by decide +kernel)) (by rfl)) (jb_cons (js_aug (i := 2) sc_tokens.nd rfl (by first | exact Or.inl rfl | exact Or.inr rfl) je_int pi_add os_iadd) (jb_one js_continue)) jb_nil) (jb_cons (js_asg (own := [3, 4]) (je_fn c_token_at hr (by decide) (by rfl) (ja_cons (je_var 0) (ja_cons (je_var 2) ja_nil))) (jg_tup rfl sc_tokens.nd (.cons rfl (by first | exact Or.inl rfl | exact Or.inr rfl) (by first | exact .inl rfl | exact .inr rfl) (by decide) (by rfl) (.cons rfl (by first | exact Or.inl rfl | exact Or.inr rfl) (by first | exact .inl rfl | exact .inr rfl) (by decide) (by rfl) .nil)))) (jb_cons (js_expr (je_meth PySem.F.slot_list_append PySem.F.type_list_append mt_append' ms_append (je_var 1) (ja_cons (je_tup (ja_cons (je_var 3) (ja_cons (je_var 4) (ja_cons (je_var 2) ja_nil)))) ja_nil))) (jb_cons (js_if (jt_not (jt_tru (je_var 3))) (jb_one (js_ret (je_frz (je_var 1)))) jb_nil) (jb_one (js_aug (i := 2) sc_tokens.nd rfl (by first | exact Or.inl rfl | exact Or.inr rfl) (je_callB call_len cs_len (by rfl) T.b_len (by decide +kernel) (ja_cons (je_var 4) ja_nil)) pi_add os_iadd))))))) (jb_one (js_ret (je_frz (je_var 1)))))))
theorem fn_law_same {f : Addr} {fd : FuncData} {G_law_same : SF} {j : Nat} (F : Fun K "_law_same" "_law_same" s_law_same f fd) (T : Txt K mg)  (c_law_same : Cal P w K mg base cm j "_law_same" 2 G_law_same) (hj : 0 ≤ j) : FnS P w K mg base cm (j + 1) f fd p_law_same (M_law_same G_law_same) :=
  fn_body F sc_law_same fun cdv A outer s H E hr => show JB _ cm W0 (defBody s_law_same) _ from (jb_cons (js_if (jt_w (jw_or (jt_tru (je_isi (T := "tuple") (by decide +kernel) (by rfl) T.b_isinstance (by decide +kernel) (by rfl) T.b_tuple (by decide +kernel) (je_var 1))) (jw_or1 (jt_tru (je_isi (T := "list") (by decide +kernel) (by rfl) T.b_isinstance (by decide +kernel) (by rfl) T.b_list (by decide +kernel) (je_var 1)))))) (jb_cons (js_if (jt_w (jw_or (jt_cmp (op_ne' hr.units) os_ne (je_isi (T := "tuple") (by decide +kernel) (by rfl) T.b_isinstance (by decide +kernel) (by rfl) T.b_tuple (by decide +kernel) (je_var 0)) (je_isi (T := "tuple") (by decide +kernel) (by rfl) T.b_isinstance (by decide +kernel) (by rfl) T.b_tuple (by decide +kernel) (je_var 1)) (by rfl)) (jw_or1 (jt_cmp (op_ne' hr.units) os_ne (je_isi (T := "list") (by decide +kernel) (by rfl) T.b_isinstance (by decide +kernel) (by rfl) T.b_list (by decide +kernel) (je_var 0)) (je_isi (T := "list") (by decide +kernel) (by rfl) T.b_isinstance (by decide +kernel) (by rfl) T.b_list (by decide +kernel) (je_var 1)) (by rfl))))) (jb_one (js_ret je_bl)) jb_nil) (jb_one (js_ret (je_and (je_cmp (op_eq' hr.units) os_eq (je_callB call_len cs_len (by rfl) T.b_len (by decide +kernel) (ja_cons (je_var 0) ja_nil)) (je_callB call_len cs_len (by rfl) T.b_len (by decide +kernel) (ja_cons (je_var 1) ja_nil)) (by rfl)) (je_one (je_callB (cr_all rfl) cs_all (by rfl) T.b_all (by decide +kernel) (ja_cons (je_lc (own := [("k", 2)]) rfl sc_law_same.nd (ji_range1 (by rfl) T.b_range (je_callB call_len cs_len (by rfl) T.b_len (by decide +kernel) (ja_cons (je_var 1) ja_nil))) (blkOk_by (own := [("k", 2)]) (N := n_law_same) (sc := defScope s_law_same) (by decide +kernel)) (fun _ _ _ _ _ => (jg_name (i := 2) (by decide) sc_law_same.nd rfl (by first | exact Or.inl rfl | exact Or.inr rfl))) (fun _ _ _ _ _ => jts_nil) (fun _ _ _ _ _ => (je_fn c_law_same hr (Nat.le_refl _) (by rfl) (ja_cons (je_ix (je_var 0) (je_var 2)) (ja_cons (je_ix (je_var 1) (je_var 2)) ja_nil))))) ja_nil))))))) jb_nil) (jb_cons (js_if (jt_cmp op_isN os_isN (je_var 1) je_non (by rfl)) (jb_one (js_ret (je_cmp op_isN os_isN (je_var 0) je_non (by rfl)))) jb_nil) (jb_cons (js_if (jt_tru (je_isi (T := "str") (by decide +kernel) (by rfl) T.b_isinstance (by decide +kernel) (by rfl) T.b_str (by decide +kernel) (je_var 1))) (jb_one (js_ret (je_and (je_isi (T := "str") (by decide +kernel) (by rfl) T.b_isinstance (by decide +kernel) (by rfl) T.b_str (by decide +kernel) (je_var 0)) (je_one (je_cmp (op_eq' hr.units) os_eq (je_var 0) (je_var 1) (by rfl)))))) jb_nil) (jb_one (js_ret (je_and (je_isi (T := "int") (by decide +kernel) (by rfl) T.b_isinstance (by decide +kernel) (by rfl) T.b_int (by decide +kernel) (je_var 0)) (je_and (je_cmp (op_eq' hr.units) os_eq (je_isi (T := "bool") (by decide +kernel) (by rfl) T.b_isinstance (by decide +kernel) (by rfl) T.b_bool (by decide +kernel) (je_var 0)) (je_isi (T := "bool") (by decide +kernel) (by rfl) T.b_isinstance (by decide +kernel) (by rfl) T.b_bool (by decide +kernel) (je_var 1)) (by rfl)) (je_one (je_cmp (op_eq' hr.units) os_eq (je_var 0) (je_var 1) (by rfl))))))))))
theorem fn_law {f : Addr} {fd : FuncData} (F : Fun K "law" "law" s_law f fd) (T : Txt K mg) (c_law_stream : Cal P w K mg base cm 1 "_law_stream" 1 G_law_stream) (c_law_draw : Cal P w K mg base cm 1 "_law_draw" 2 G_law_draw) (c_law_pick : Cal P w K mg base cm 2 "_law_pick" 2 G_law_pick) (c_law_token : Cal P w K mg base cm 2 "_law_token" 2 G_law_token) (c_tokens : Cal P w K mg base cm 3 "tokens" 1 G_tokens) (c_law_same : Cal P w K mg base cm 1 "_law_same" 2 G_law_same) : FnS P w K mg base cm 4 f fd p_law M_law :=
  fn_body F sc_law fun cdv A outer s H E hr => show JB _ cm W0 (defBody s_law) _ from (jb_cons (js_set (i := 1) sc_law.nd rfl (by first | exact Or.inl rfl | exact Or.inr rfl) (je_fn c_law_stream hr (by decide) (by rfl) (ja_cons (je_var 0) ja_nil))) (jb_cons (js_set (i := 2) sc_law.nd rfl (by first | exact Or.inl rfl | exact Or.inr rfl) (je_lstN (ja_cons (je_str (by decide +kernel)) (ja_cons (je_str (by decide +kernel)) (ja_cons (je_str (by decide +kernel)) (ja_cons (je_str (by decide +kernel)) (ja_cons (je_str (by decide +kernel)) (ja_cons (je_str (by decide +kernel)) (ja_cons (je_str (by decide +kernel)) (ja_cons (je_str (by decide +kernel)) (ja_cons (je_str (by decide +kernel)) (ja_cons (je_str (by decide +kernel)) (ja_cons (je_str (by decide +kernel)) (ja_cons (je_str (by decide +kernel)) (ja_cons (je_str (by decide +kernel)) (ja_cons (je_str (by decide +kernel)) (ja_cons (je_str (by decide +kernel)) (ja_cons (je_str (by decide +kernel)) (ja_cons (je_str (by decide +kernel)) (ja_cons (je_str (by decide +kernel)) (ja_cons (je_str (by decide +kernel)) (ja_cons (je_str (by decide +kernel)) (ja_cons (je_str (by decide +kernel)) (ja_cons (je_str (by decide +kernel)) (ja_cons (je_str (by decide +kernel)) (ja_cons (je_str (by decide +kernel)) ja_nil)))))))))))))))))))))))))) (jb_cons (js_expr (je_meth PySem.F.slot_list_extend PySem.F.type_list_extend mt_extend' ms_extend (je_var 2) (ja_cons (je_lst (ja_cons (je_str (by decide +kernel)) (ja_cons (je_str (by decide +kernel)) (ja_cons (je_str (by decide +kernel)) (ja_cons (je_str (by decide +kernel)) (ja_cons (je_str (by decide +kernel)) (ja_cons (je_str (by decide +kernel)) (ja_cons (je_str (by decide +kernel)) (ja_cons (je_str (by decide +kernel)) (ja_cons (je_str (by decide +kernel)) (ja_cons (je_str (by decide +kernel)) (ja_cons (je_str (by decide +kernel)) (ja_cons (je_str (by decide +kernel)) (ja_cons (je_str (by decide +kernel)) (ja_cons (je_str (by decide +kernel)) (ja_cons (je_str (by decide +kernel)) (ja_cons (je_str (by decide +kernel)) (ja_cons (je_str (by decide +kernel)) (ja_cons (je_str (by decide +kernel)) (ja_cons (je_str (by decide +kernel)) (ja_cons (je_str (by decide +kernel)) (ja_cons (je_str (by decide +kernel)) (ja_cons (je_str (by decide +kernel)) (ja_cons (je_str (by decide +kernel)) (ja_cons (je_str (by decide +kernel)) (ja_cons (je_str (by decide +kernel)) (ja_cons (je_str (by decide +kernel)) (ja_cons (je_str (by decide +kernel)) (ja_cons (je_str (by decide +kernel)) (ja_cons (je_str (by decide +kernel)) (ja_cons (je_str (by decide +kernel)) (ja_cons (je_str (by decide +kernel)) (ja_cons (je_str (by decide +kernel)) (ja_cons (je_str (by decide +kernel)) ja_nil)))))))))))))))))))))))))))))))))) ja_nil))) (jb_frz (i := 2) (jb_cons (js_set (i := 3) sc_law.nd rfl (by first | exact Or.inl rfl | exact Or.inr rfl) (je_str (by decide +kernel))) (jb_cons (js_for (own := [4]) PassesOwn.never rfl (ji_range1 (by rfl) T.b_range (je_fn c_law_draw hr (by decide) (by rfl) (ja_cons (je_var 1) (ja_cons je_int ja_nil)))) (jg_name (i := 4) (by decide) sc_law.nd rfl (by first | exact Or.inl rfl | exact Or.inr rfl)) (jb_one (js_set (i := 3) sc_law.nd rfl (by first | exact Or.inl rfl | exact Or.inr rfl) (je_bin op_add' os_add (je_bin op_add' os_add (je_var 3) (je_fn c_law_pick hr (by decide) (by rfl) (ja_cons (je_var 1) (ja_cons (je_var 2) ja_nil)))) (je_fn c_law_pick hr (by decide) (by rfl) (ja_cons (je_var 1) (ja_cons (je_lst (ja_cons (je_str (by decide +kernel)) (ja_cons (je_str (by decide +kernel)) (ja_cons (je_str (by decide +kernel)) (ja_cons (je_str (by decide +kernel)) (ja_cons (je_str (by decide +kernel)) ja_nil)))))) ja_nil))))))) (jb_cons (js_set (i := 5) sc_law.nd rfl (by first | exact Or.inl rfl | exact Or.inr rfl) (je_lstN ja_nil)) (jb_cons (js_set (i := 4) sc_law.nd rfl (by first | exact Or.inl rfl | exact Or.inr rfl) je_int) (jb_cons (js_while bigN PassesOwn.never (jt_cmp op_lt os_lt (je_var 4) (je_callB call_len cs_len (by rfl) T.b_len (by decide +kernel) (ja_cons (je_var 3) ja_nil)) (by rfl)) (jb_cons (js_if (jt_cmp op_inT os_inT (je_ix (je_var 3) (je_var 4)) (je_str (by decide +kernel)) (by rfl)) (jb_cons (js_set (i := 4) sc_law.nd rfl (by first | exact Or.inl rfl | exact Or.inr rfl) (je_bin op_add' os_add (je_var 4) je_int)) (jb_one js_continue)) jb_nil) (jb_cons (js_set (i := 6) sc_law.nd rfl (by first | exact Or.inl rfl | exact Or.inr rfl) (je_fn c_law_token hr (by decide) (by rfl) (ja_cons (je_var 3) (ja_cons (je_var 4) ja_nil)))) (jb_cons (js_expr (je_meth PySem.F.slot_list_append PySem.F.type_list_append mt_append' ms_append (je_var 5) (ja_cons (je_if (jt_cmp op_notN os_notN (je_var 6) je_non (by rfl)) (je_tup (ja_cons (je_ix (je_var 6) je_int) (ja_cons (je_ix (je_var 6) je_int) (ja_cons (je_var 4) ja_nil)))) (je_tup (ja_cons (je_str (by decide +kernel)) (ja_cons je_non (ja_cons (je_var 4) ja_nil))))) ja_nil))) (jb_cons (js_if (jt_cmp op_isN os_isN (je_var 6) je_non (by rfl)) (jb_one js_break) jb_nil) (jb_one (js_set (i := 4) sc_law.nd rfl (by first | exact Or.inl rfl | exact Or.inr rfl) (je_bin op_add' os_add (je_var 4) (je_callB call_len cs_len (by rfl) T.b_len (by decide +kernel) (ja_cons (je_ix (je_var 6) je_int) ja_nil)))))))))) (jb_cons (js_set (i := 7) sc_law.nd rfl (by first | exact Or.inl rfl | exact Or.inr rfl) (je_fn c_tokens hr (by decide) (by rfl) (ja_cons (je_var 3) ja_nil))) (jb_cons (js_if (jt_w (jw_or (jt_not (jt_tru (je_isi (T := "list") (by decide +kernel) (by rfl) T.b_isinstance (by decide +kernel) (by rfl) T.b_list (by decide +kernel) (je_var 7)))) (jw_or1 (jt_cmp (op_ne' hr.units) os_ne (je_callB call_len cs_len (by rfl) T.b_len (by decide +kernel) (ja_cons (je_var 7) ja_nil)) (je_callB call_len cs_len (by rfl) T.b_len (by decide +kernel) (ja_cons (je_var 5) ja_nil)) (by rfl))))) (jb_one (js_ret je_bl)) jb_nil) (jb_cons (js_for (own := [8]) PassesOwn.never rfl (ji_range1 (by rfl) T.b_range (je_callB call_len cs_len (by rfl) T.b_len (by decide +kernel) (ja_cons (je_var 5) ja_nil))) (jg_name (i := 8) (by decide) sc_law.nd rfl (by first | exact Or.inl rfl | exact Or.inr rfl)) (jb_cons (js_if (jt_w (jw_or (jt_not (jt_tru (je_isi (T := "tuple") (by decide +kernel) (by rfl) T.b_isinstance (by decide +kernel) (by rfl) T.b_tuple (by decide +kernel) (je_ix (je_var 7) (je_var 8))))) (jw_or (jt_cmp (op_ne' hr.units) os_ne (je_callB call_len cs_len (by rfl) T.b_len (by decide +kernel) (ja_cons (je_ix (je_var 7) (je_var 8)) ja_nil)) je_int (by rfl)) (jw_or (jt_not (jt_tru (je_fn c_law_same hr (by decide) (by rfl) (ja_cons (je_ix (je_ix (je_var 7) (je_var 8)) je_int) (ja_cons (je_ix (je_ix (je_var 5) (je_var 8)) je_int) ja_nil))))) (jw_or1 (jt_not (jt_tru (je_fn c_law_same hr (by decide) (by rfl) (ja_cons (je_ix (je_ix (je_var 7) (je_var 8)) je_int) (ja_cons (je_ix (je_ix (je_var 5) (je_var 8)) je_int) ja_nil)))))))))) (jb_one (js_ret je_bl)) jb_nil) (jb_one (js_if (jt_w (jw_and (jt_cmp (op_ne' hr.units) os_ne (je_ix (je_ix (je_var 5) (je_var 8)) je_int) (je_str (by decide +kernel)) (by rfl)) (jw_and1 (jt_not (jt_tru (je_fn c_law_same hr (by decide) (by rfl) (ja_cons (je_ix (je_ix (je_var 7) (je_var 8)) je_int) (ja_cons (je_ix (je_ix (je_var 5) (je_var 8)) je_int) ja_nil)))))))) (jb_one (js_ret je_bl)) jb_nil)))) (jb_one (js_ret je_bl))))))))))))))
end
end Lw

set_option Elab.async false
set_option linter.all false
set_option maxRecDepth 100000
/-! SxEnd: what the top has written; the end of a law. -/
namespace Lw
open PySem PySem.Spec L2 Sx
open PyProof.Rows hiding St
/-- a def of the top -/
def DefAt (K : PySem.W.Frag) (x : Str) (st : Stmt) : Prop := ∃ (f : Addr) (fd : FuncData), PySem.W.nsIn K mainGlobals x = some (some (.ref f)) ∧ Fun K x x st f fd
theorem dmk {K : PySem.W.Frag} {x : Str} {st : Stmt} {f : Addr} {oc : Value} {od an : Option Addr} {osl : Array (Option Value)} {kV doc pm cdv ct : Value} (a : PySem.W.nsIn K mainGlobals x = some (some (.ref f)))
    (l : K.lookup f = some ⟨oc, od, .func (PySem.W.fnOf x x (defArgs st) (defBody st) (defScope st) .none kV doc pm an cdv ct), osl⟩) (c : PySem.W.codeIn K cdv x = true) (k : PySem.W.keepIn K (.ref f) = true) : DefAt K x st :=
  ⟨f, _, a, fun_mk l c k⟩
def IntAt (K : PySem.W.Frag) (x : Str) (i : Int) : Prop := ∃ t : Tok, PySem.W.nsIn K mainGlobals x = some (some (.int i t))
theorem imk {K : PySem.W.Frag} {x : Str} {i : Int} {t : Tok} (a : PySem.W.nsIn K mainGlobals x = some (some (.int i t))) : IntAt K x i := ⟨t, a⟩
theorem IntAt.c {K : PySem.W.Frag} {h : Heap} {mg : Str → Option Value} {x : Str} {i : Int} (z : IntAt K x i) (X : K.In h) (G : h.Ns mainGlobals mg) : KConst K mg x (.int i) := by
  obtain ⟨t, a⟩ := z
  exact kconst_int (PySem.W.mg_of X G a)
def StrAt (K : PySem.W.Frag) (x : Str) (z : List Nat) : Prop := ∃ (y : Str) (t : Tok), PySem.W.nsIn K mainGlobals x = some (some (.str y t)) ∧ y.cps.toList = z
theorem smk {K : PySem.W.Frag} {x y : Str} {z : List Nat} {t : Tok} (a : PySem.W.nsIn K mainGlobals x = some (some (.str y t))) (h : y.cps.toList = z) : StrAt K x z := ⟨y, t, a, h⟩
theorem StrAt.c {K : PySem.W.Frag} {h : Heap} {mg : Str → Option Value} {x : Str} {z : List Nat} (s : StrAt K x z) (X : K.In h) (G : h.Ns mainGlobals mg) : KConst K mg x (.str z) := by
  obtain ⟨y, t, a, e⟩ := s
  exact ⟨_, .str y, PySem.W.mg_of X G a, ⟨t, rfl⟩, fun _ => ⟨y, rfl, e⟩⟩
def TupAt (K : PySem.W.Frag) (x : Str) (vs : List Val) : Prop := ∃ (a : Addr) (o : Obj) (us : List Value) (n : Nat), PySem.W.nsIn K mainGlobals x = some (some (.ref a)) ∧ K.lookup a = some o ∧ o.cls = .type "tuple" ∧ o.data = .seq us.toArray n ∧ us.length ≤ sizeLine ∧ Flats vs us
theorem tmk {K : PySem.W.Frag} {x : Str} {vs : List Val} {a : Addr} {o : Obj} {us : List Value} {n : Nat} (h1 : PySem.W.nsIn K mainGlobals x = some (some (.ref a))) (h2 : K.lookup a = some o) (h3 : o.cls = .type "tuple") (h4 : o.data = .seq us.toArray n) (h5 : us.length ≤ sizeLine) (h6 : Flats vs us) : TupAt K x vs :=
  ⟨a, o, us, n, h1, h2, h3, h4, h5, h6⟩
theorem TupAt.c {K : PySem.W.Frag} {h : Heap} {mg : Str → Option Value} {x : Str} {vs : List Val} (z : TupAt K x vs) (X : K.In h) (G : h.Ns mainGlobals mg) : KConst K mg x (.tup vs) := by
  obtain ⟨a, o, us, n, h1, h2, h3, h4, h5, h6⟩ := z
  exact kconst_tup (PySem.W.mg_of X G h1) h2 h3 h4 h5 h6
/-- what a law promises -/
def spLaw (K : PySem.W.Frag) : Sp := fun vs H Q _ => ∃ (a : Addr) (ns : List Int), vs = [.ref a] ∧ SqL K H a (ns.map V.int) ∧ ns.length ≤ 63 ∧ ∀ H', Q (.bl true) H'
theorem rels_iV {K : PySem.W.Frag} {S : Sn} : ∀ ns : List Int, VRels K S (iV ns) (ns.map V.int)
  | [] => rfl
  | n :: ns => ⟨V.int n, ns.map V.int, rfl, rfl, rels_iV ns⟩
theorem fn_end {P : Program} {w : World} {K : PySem.W.Frag} {mg : Str → Option Value} {base : Heap} {k : Nat} {f : Addr} {fd : FuncData} {F : SF} (h : FnS P w K mg base (fun _ => 0) k f fd ["script"] F)
    (ht : ∀ ns : List Int, ns.length ≤ 63 → Ok (F [.kl (iV ns)] []) fun v _ => v = .bl true) : FnOk P w K mg base CX0 k f fd ["script"] (spLaw K) := FnOk.imp h fun vs H Q E ⟨a, ns, e, hs, hl, q⟩ => by
  subst e
  obtain ⟨v, h', e1, e2⟩ := ht ns hl
  have nal : ¬ Al (⟨[], [], H, []⟩ : Sn) a := fun z => by
    rcases z with z | ⟨i, c, z, _⟩
    · cases z
    · simp at z
  refine ⟨rfl, ⟨[], [], H, []⟩, [.kl (iV ns)], rfl, ⟨rfl, fun i j p ci cj h => (by simp at h), fun i c p h => (by simp at h), fun p h => (by cases h), fun i p c h => (by simp at h)⟩, ⟨.ref a, [], rfl, ⟨a, ns.map V.int, rfl, ?_, rels_iV ns⟩, rfl⟩, ?_⟩
  · rcases hs with hs | hs
    · exact .inl ⟨hs, nal⟩
    · exact .inr hs
  · show Post K _ W0 _ (F [.kl (iV ns)] []) _
    rw [e1, e2]
    intro S' _ _ _ w r
    cases r
    exact q _
end Lw

set_option Elab.async false
set_option linter.all false
set_option maxRecDepth 100000
set_option maxHeartbeats 4000000
namespace Lw
open PySem PySem.Spec L2 Sx
open PyProof.Rows hiding St
theorem all_mk {l : PySem.W.OpenLaw} {w : World} {K : PySem.W.Frag} {h : Heap} {mg : Str → Option Value} {fa : Addr} (X : K.In h) (G : h.Ns mainGlobals mg) (hfa : mg "law" = some (.ref fa))
    (d_law_stream : DefAt K "_law_stream" s_law_stream)
    (d_law_draw : DefAt K "_law_draw" s_law_draw)
    (d_law_pick : DefAt K "_law_pick" s_law_pick)
    (d_law_stretch : DefAt K "_law_stretch" s_law_stretch)
    (d_law_token : DefAt K "_law_token" s_law_token)
    (d_run_of : DefAt K "run_of" s_run_of)
    (d_symbol_at : DefAt K "symbol_at" s_symbol_at)
    (d_token_at : DefAt K "token_at" s_token_at)
    (d_tokens : DefAt K "tokens" s_tokens)
    (d_law_same : DefAt K "_law_same" s_law_same)
    (d_law : DefAt K "law" s_law)
    (z_abs : PySem.W.nsIn K mainGlobals "abs" = some none)
    (z_all : PySem.W.nsIn K mainGlobals "all" = some none)
    (z_bool : PySem.W.nsIn K mainGlobals "bool" = some none)
    (z_int : PySem.W.nsIn K mainGlobals "int" = some none)
    (z_isinstance : PySem.W.nsIn K mainGlobals "isinstance" = some none)
    (z_len : PySem.W.nsIn K mainGlobals "len" = some none)
    (z_list : PySem.W.nsIn K mainGlobals "list" = some none)
    (z_range : PySem.W.nsIn K mainGlobals "range" = some none)
    (z_str : PySem.W.nsIn K mainGlobals "str" = some none)
    (z_tuple : PySem.W.nsIn K mainGlobals "tuple" = some none)
    (k_SMALL : StrAt K "SMALL" [97, 98, 99, 100, 101, 102, 103, 104, 105, 106, 107, 108, 109, 110, 111, 112, 113, 114, 115, 116, 117, 118, 119, 120, 121, 122])
    (k_DIGITS : StrAt K "DIGITS" [48, 49, 50, 51, 52, 53, 54, 55, 56, 57])
    (k_MOST_NAME : IntAt K "MOST_NAME" 12)
    (k_MOST_DIGITS : IntAt K "MOST_DIGITS" 10)
    (k_CAPITALS : StrAt K "CAPITALS" [65, 66, 67, 68, 69, 70, 71, 72, 73, 74, 75, 76, 77, 78, 79, 80, 81, 82, 83, 84, 85, 86, 87, 88, 89, 90])
    (k_KEYS : TupAt K "KEYS" [.str [75, 69, 82, 78, 69, 76], .str [73, 78, 84], .str [66, 85, 70, 70, 69, 82], .str [83, 72, 65, 82, 69, 68], .str [76, 69, 84], .str [65, 84, 79, 77, 73, 67], .str [73, 70], .str [69, 76, 83, 69], .str [87, 72, 73, 76, 69], .str [66, 82, 69, 65, 75], .str [67, 79, 78, 84, 73, 78, 85, 69], .str [82, 69, 84, 85, 82, 78], .str [66, 65, 82, 82, 73, 69, 82], .str [67, 79, 76, 76, 69, 67, 84], .str [80, 73, 67, 75], .str [65, 68, 68], .str [77, 73, 78], .str [77, 65, 88], .str [82, 69, 77], .str [65, 78, 68], .str [79, 82], .str [88, 79, 82], .str [84, 73, 68], .str [66, 73, 68], .str [68, 73, 77], .str [71, 82, 73, 68]])
    (k_SYMBOLS : TupAt K "SYMBOLS" [.str [60, 60], .str [62, 62], .str [60, 61], .str [61, 61], .str [33, 61], .str [40], .str [41], .str [123], .str [125], .str [91], .str [93], .str [44], .str [59], .str [61], .str [43], .str [45], .str [42], .str [47], .str [38], .str [124], .str [94], .str [60], .str [126], .str [33]]) :
    ∃ fd : FuncData, (∀ (s : Shared) (v : Value), BindsTo s fd ⟨[v], []⟩ [("script", v)]) ∧ ∀ base : Heap, K.In base → base.Ns mainGlobals mg → FnOk l.prog w K mg base CX0 4 fa fd ["script"] (spLaw K) := by
  have T : Txt K mg := ⟨PySem.W.mg_none_of X G z_abs, PySem.W.mg_none_of X G z_all, PySem.W.mg_none_of X G z_bool, PySem.W.mg_none_of X G z_int, PySem.W.mg_none_of X G z_isinstance, PySem.W.mg_none_of X G z_len, PySem.W.mg_none_of X G z_list, PySem.W.mg_none_of X G z_range, PySem.W.mg_none_of X G z_str, PySem.W.mg_none_of X G z_tuple, k_SMALL.c X G, k_DIGITS.c X G, k_MOST_NAME.c X G, k_MOST_DIGITS.c X G, k_CAPITALS.c X G, k_KEYS.c X G, k_SYMBOLS.c X G⟩
  obtain ⟨f_law_stream, fd_law_stream, a_law_stream, F_law_stream⟩ := d_law_stream
  have m_law_stream := PySem.W.mg_of X G a_law_stream
  have b_law_stream := F_law_stream.binds (ps := p_law_stream) fun _ _ _ _ _ _ us hl => match us, hl with | [_], _ => rfl
  obtain ⟨f_law_draw, fd_law_draw, a_law_draw, F_law_draw⟩ := d_law_draw
  have m_law_draw := PySem.W.mg_of X G a_law_draw
  have b_law_draw := F_law_draw.binds (ps := p_law_draw) fun _ _ _ _ _ _ us hl => match us, hl with | [_, _], _ => rfl
  obtain ⟨f_law_pick, fd_law_pick, a_law_pick, F_law_pick⟩ := d_law_pick
  have m_law_pick := PySem.W.mg_of X G a_law_pick
  have b_law_pick := F_law_pick.binds (ps := p_law_pick) fun _ _ _ _ _ _ us hl => match us, hl with | [_, _], _ => rfl
  obtain ⟨f_law_stretch, fd_law_stretch, a_law_stretch, F_law_stretch⟩ := d_law_stretch
  have m_law_stretch := PySem.W.mg_of X G a_law_stretch
  have b_law_stretch := F_law_stretch.binds (ps := p_law_stretch) fun _ _ _ _ _ _ us hl => match us, hl with | [_, _, _], _ => rfl
  obtain ⟨f_law_token, fd_law_token, a_law_token, F_law_token⟩ := d_law_token
  have m_law_token := PySem.W.mg_of X G a_law_token
  have b_law_token := F_law_token.binds (ps := p_law_token) fun _ _ _ _ _ _ us hl => match us, hl with | [_, _], _ => rfl
  obtain ⟨f_run_of, fd_run_of, a_run_of, F_run_of⟩ := d_run_of
  have m_run_of := PySem.W.mg_of X G a_run_of
  have b_run_of := F_run_of.binds (ps := p_run_of) fun _ _ _ _ _ _ us hl => match us, hl with | [_, _, _], _ => rfl
  obtain ⟨f_symbol_at, fd_symbol_at, a_symbol_at, F_symbol_at⟩ := d_symbol_at
  have m_symbol_at := PySem.W.mg_of X G a_symbol_at
  have b_symbol_at := F_symbol_at.binds (ps := p_symbol_at) fun _ _ _ _ _ _ us hl => match us, hl with | [_, _], _ => rfl
  obtain ⟨f_token_at, fd_token_at, a_token_at, F_token_at⟩ := d_token_at
  have m_token_at := PySem.W.mg_of X G a_token_at
  have b_token_at := F_token_at.binds (ps := p_token_at) fun _ _ _ _ _ _ us hl => match us, hl with | [_, _], _ => rfl
  obtain ⟨f_tokens, fd_tokens, a_tokens, F_tokens⟩ := d_tokens
  have m_tokens := PySem.W.mg_of X G a_tokens
  have b_tokens := F_tokens.binds (ps := p_tokens) fun _ _ _ _ _ _ us hl => match us, hl with | [_], _ => rfl
  obtain ⟨f_law_same, fd_law_same, a_law_same, F_law_same⟩ := d_law_same
  have m_law_same := PySem.W.mg_of X G a_law_same
  have b_law_same := F_law_same.binds (ps := p_law_same) fun _ _ _ _ _ _ us hl => match us, hl with | [_, _], _ => rfl
  obtain ⟨f_law, fd_law, a_law, F_law⟩ := d_law
  have m_law := PySem.W.mg_of X G a_law
  have b_law := F_law.binds (ps := p_law) fun _ _ _ _ _ _ us hl => match us, hl with | [_], _ => rfl
  cases hfa.symm.trans m_law
  obtain ⟨oc, od, kV, doc, pm, an, cdv, ct, osl, e, lk, hcd⟩ := F_law.ex
  refine ⟨fd_law, fun s v => by subst e; exact .of_eq rfl, fun base hb hg => ?_⟩
  have g_law_stream : Cal l.prog w K mg base (fun _ => 0) 1 "_law_stream" 1 G_law_stream := (cal_mk F_law_stream m_law_stream b_law_stream (fn_law_stream F_law_stream T )).le le_law_stream
  have g_law_draw : Cal l.prog w K mg base (fun _ => 0) 1 "_law_draw" 2 G_law_draw := (cal_mk F_law_draw m_law_draw b_law_draw (fn_law_draw F_law_draw T )).le le_law_draw
  have g_law_pick : Cal l.prog w K mg base (fun _ => 0) 2 "_law_pick" 2 G_law_pick := (cal_mk F_law_pick m_law_pick b_law_pick (fn_law_pick F_law_pick T g_law_draw)).le le_law_pick
  have g_law_stretch : Cal l.prog w K mg base (fun _ => 0) 1 "_law_stretch" 3 G_law_stretch := (cal_mk F_law_stretch m_law_stretch b_law_stretch (fn_law_stretch F_law_stretch T )).le le_law_stretch
  have g_law_token : Cal l.prog w K mg base (fun _ => 0) 2 "_law_token" 2 G_law_token := (cal_mk F_law_token m_law_token b_law_token (fn_law_token F_law_token T g_law_stretch)).le le_law_token
  have g_run_of : Cal l.prog w K mg base (fun _ => 0) 1 "run_of" 3 G_run_of := (cal_mk F_run_of m_run_of b_run_of (fn_run_of F_run_of T )).le le_run_of
  have g_symbol_at : Cal l.prog w K mg base (fun _ => 0) 1 "symbol_at" 2 G_symbol_at := (cal_mk F_symbol_at m_symbol_at b_symbol_at (fn_symbol_at F_symbol_at T )).le le_symbol_at
  have g_token_at : Cal l.prog w K mg base (fun _ => 0) 2 "token_at" 2 G_token_at := (cal_mk F_token_at m_token_at b_token_at (fn_token_at F_token_at T g_run_of g_symbol_at)).le le_token_at
  have g_tokens : Cal l.prog w K mg base (fun _ => 0) 3 "tokens" 1 G_tokens := (cal_mk F_tokens m_tokens b_tokens (fn_tokens F_tokens T g_token_at)).trunc.le le_tokens
  have g0_law_same : Cal l.prog w K mg base (fun _ => 0) 0 "_law_same" 2 (fun _ _ => .bad) := cal_bad m_law_same F_law_same.kp b_law_same
  have g_law_same : Cal l.prog w K mg base (fun _ => 0) 1 "_law_same" 2 G_law_same := (cal_mk F_law_same m_law_same b_law_same (fn_law_same F_law_same T  g0_law_same (by decide))).le (le_law_same' _)
  exact fn_end (fn_law F_law T g_law_stream g_law_draw g_law_pick g_law_token g_tokens g_law_same) fun ns hl => law_true hl []
end Lw
open PySem PySem.W PyProof.Rows in
set_option maxRecDepth 100000 in
set_option maxHeartbeats 0 in
theorem PySem.Challenge.cw_drawever_k28_whole_tokens_holds : PySem.Challenge.rw_drawever_k28_whole_tokens.Holds := by
  w_on; o_law; k_head; (case hw => w_witness2)
  k_fill
  refine L2.walk_of (l := PySem.Challenge.rw_drawever_k28_whole_tokens) (n := 63) (k := 4) (x := "script") (CX := fun _ => L2.CX0) (sp := fun w => Lw.spLaw _) rfl (by decide) rfl ⟨rfl, by decide, by decide⟩ (fun w h Y => PySem.W.kIn_of Y) ?F (fun _ _ a ns hl _ hS => ⟨a, ns, rfl, hS, hl, fun _ => rfl⟩) fun _ _ _ _ _ z => z
  case F =>
    intro w mg fa h KX G hmg
    refine' Lw.all_mk KX G hmg ?d_law_stream ?d_law_draw ?d_law_pick ?d_law_stretch ?d_law_token ?d_run_of ?d_symbol_at ?d_token_at ?d_tokens ?d_law_same ?d_law ?z_abs ?z_all ?z_bool ?z_int ?z_isinstance ?z_len ?z_list ?z_range ?z_str ?z_tuple ?k_SMALL ?k_DIGITS ?k_MOST_NAME ?k_MOST_DIGITS ?k_CAPITALS ?k_KEYS ?k_SYMBOLS
    case d_law_stream =>
      refine' Lw.dmk ?a ?l ?c ?k
      (case a => k_is)
      (case l => k_is)
      (case c => k_is)
      (case k => k_is)
    case d_law_draw =>
      refine' Lw.dmk ?a ?l ?c ?k
      (case a => k_is)
      (case l => k_is)
      (case c => k_is)
      (case k => k_is)
    case d_law_pick =>
      refine' Lw.dmk ?a ?l ?c ?k
      (case a => k_is)
      (case l => k_is)
      (case c => k_is)
      (case k => k_is)
    case d_law_stretch =>
      refine' Lw.dmk ?a ?l ?c ?k
      (case a => k_is)
      (case l => k_is)
      (case c => k_is)
      (case k => k_is)
    case d_law_token =>
      refine' Lw.dmk ?a ?l ?c ?k
      (case a => k_is)
      (case l => k_is)
      (case c => k_is)
      (case k => k_is)
    case d_run_of =>
      refine' Lw.dmk ?a ?l ?c ?k
      (case a => k_is)
      (case l => k_is)
      (case c => k_is)
      (case k => k_is)
    case d_symbol_at =>
      refine' Lw.dmk ?a ?l ?c ?k
      (case a => k_is)
      (case l => k_is)
      (case c => k_is)
      (case k => k_is)
    case d_token_at =>
      refine' Lw.dmk ?a ?l ?c ?k
      (case a => k_is)
      (case l => k_is)
      (case c => k_is)
      (case k => k_is)
    case d_tokens =>
      refine' Lw.dmk ?a ?l ?c ?k
      (case a => k_is)
      (case l => k_is)
      (case c => k_is)
      (case k => k_is)
    case d_law_same =>
      refine' Lw.dmk ?a ?l ?c ?k
      (case a => k_is)
      (case l => k_is)
      (case c => k_is)
      (case k => k_is)
    case d_law =>
      refine' Lw.dmk ?a ?l ?c ?k
      (case a => k_is)
      (case l => k_is)
      (case c => k_is)
      (case k => k_is)
    (case z_abs => k_is)
    (case z_all => k_is)
    (case z_bool => k_is)
    (case z_int => k_is)
    (case z_isinstance => k_is)
    (case z_len => k_is)
    (case z_list => k_is)
    (case z_range => k_is)
    (case z_str => k_is)
    (case z_tuple => k_is)
    case k_SMALL =>
      refine' Lw.smk ?a ?b
      (case a => k_is)
      (case b => decide +kernel)
    case k_DIGITS =>
      refine' Lw.smk ?a ?b
      (case a => k_is)
      (case b => decide +kernel)
    case k_MOST_NAME =>
      refine' Lw.imk ?a
      (case a => k_is)
    case k_MOST_DIGITS =>
      refine' Lw.imk ?a
      (case a => k_is)
    case k_CAPITALS =>
      refine' Lw.smk ?a ?b
      (case a => k_is)
      (case b => decide +kernel)
    case k_KEYS =>
      refine' Lw.tmk ?a ?b ?c ?d ?e ?f
      (case a => k_is)
      (case b => k_is)
      (case c => rfl)
      (case d => rfl)
      (case e => decide)
      (case f => repeat (first | exact .nil | refine .int ?_ | refine .str (by decide +kernel) ?_))
    case k_SYMBOLS =>
      refine' Lw.tmk ?a ?b ?c ?d ?e ?f
      (case a => k_is)
      (case b => k_is)
      (case c => rfl)
      (case d => rfl)
      (case e => decide)
      (case f => repeat (first | exact .nil | refine .int ?_ | refine .str (by decide +kernel) ?_))

