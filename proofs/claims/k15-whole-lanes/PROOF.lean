import PyProof.Rows.All
import Wide.All
import OpenK.AllK
import Wide.FinOn
import HandS.ForMost
import HandS.Wide
import HandS.IsInst
import HandS.Flow
import HandS.TupMul
import HandS.TupAny
import HandS.ForDict
import HandS.Style
import KE.BitLaws
import HandS.Text
import HandS.StrMore
import HandS.Codes
import HandS.Steps
import PySem.Challenge.RW_drawever_k15_whole_lanes
set_option Elab.async false
set_option linter.all false
set_option maxRecDepth 100000
set_option maxHeartbeats 2000000
/-! Sx: a deterministic value semantics over the hand layer: values are trees, mutable things stand in a small heap of cells. -/
namespace Sx
open PySem PySem.Spec L2
open PyProof.Rows hiding St

/-! ### values, cells, results -/
/-- tup: a tuple; fl: a list that is never changed again; kl: the caller's list (the script); ref: a cell -/
inductive Val where
  | non | bl (b : Bool) | int (i : Int) | str (x : List Nat) | ref (i : Nat) | tup (vs : List Val) | fl (vs : List Val) | kl (vs : List Val)
/-- a text of its code points -/
def strL (x : List Nat) : Str := ⟨x.toArray⟩
/-- a key of a dict: a number, a text -/
abbrev KV := Sum Int (List Nat)
def kk : KV → Key
  | .inl i => .inl i
  | .inr x => .inr (strL x)
inductive Cell where
  | dead | lst (vs : List Val) | dK (ks : List KV) (vs : List Val) | dT (ks : List (List KV)) (vs : List Val) | ins (c : Nat) (fs : List (List Nat)) (vs : List Val)
abbrev Env := List (Option Val)
abbrev Hv := List Cell
inductive R (α : Type) where
  | ok (a : α) (h : Hv) | exc (c : Nat) (v : List Val) (h : Hv) | bad
def R.bind {α β : Type} (r : R α) (f : α → Hv → R β) : R β := match r with
  | .ok a h => f a h
  | .exc c v h => .exc c v h
  | .bad => .bad
abbrev SE := Env → Hv → R Val
abbrev SA := Env → Hv → R (List Val)
abbrev ST := Env → Hv → R Bool
inductive Fl where
  | nx (σ : Env) | rt (v : Val) | bk (σ : Env) | ct (σ : Env)
abbrev SS := Env → Hv → R Fl
abbrev SG := Val → Env → Hv → R Env
/-- a def: its arguments, the cells -/
abbrev SF := List Val → Hv → R Val
@[simp] theorem bind_ok {α β : Type} {a : α} {h : Hv} {f : α → Hv → R β} : (R.ok a h).bind f = f a h := rfl
@[simp] theorem bind_bad {α β : Type} {f : α → Hv → R β} : (R.bad : R α).bind f = .bad := rfl
@[simp] theorem bind_exc {α β : Type} {c : Nat} {v : List Val} {h : Hv} {f : α → Hv → R β} : (R.exc c v h : R α).bind f = .exc c v h := rfl

/-! ### what the cells stand for -/
structure Sn where
  m : List Addr
  h : Hv
  H : Hp
  /-- addresses of lists that are just being made -/
  z : List Addr
def Al (S : Sn) (p : Addr) : Prop := p ∈ S.z ∨ ∃ (i : Nat) (c : Cell), S.m[i]? = some p ∧ S.h[i]? = some c ∧ c ≠ Cell.dead
def KT (K : PySem.W.Frag) (a : Addr) (xs : List V) : Prop := ∃ (o : Obj) (its : Array Value) (n : Nat), K.lookup a = some o ∧ o.cls = .type "tuple" ∧ o.data = .seq its n ∧ its.size ≤ sizeLine ∧ Vals xs its.toList
def KL (K : PySem.W.Frag) (a : Addr) (xs : List V) : Prop := ∃ (o : Obj) (its : Array Value) (n : Nat), K.lookup a = some o ∧ o.cls = .type "list" ∧ o.dict = none ∧ o.data = .seq its n ∧ its.size ≤ sizeLine ∧ Vals xs its.toList
/-- a tuple; a list of ours that no cell is; the script -/
def FT (K : PySem.W.Frag) (S : Sn) (a : Addr) (xs : List V) : Prop := (S.H a = some (.tup xs) ∧ ¬ Al S a) ∨ KT K a xs
def FL (S : Sn) (a : Addr) (xs : List V) : Prop := S.H a = some (.lst xs) ∧ ¬ Al S a
def FK (K : PySem.W.Frag) (S : Sn) (a : Addr) (xs : List V) : Prop := (Rd S.H a (.lst xs) ∧ ¬ Al S a) ∨ KL K a xs
mutual
def VRel (K : PySem.W.Frag) (S : Sn) : Val → V → Prop
  | .non, w => w = .non
  | .bl b, w => w = .bl b
  | .int i, w => w = .int i
  | .str x, w => ∃ y : Str, w = .str y ∧ y.cps.toList = x
  | .ref i, w => ∃ p, w = .ref p ∧ S.m[i]? = some p
  | .tup vs, w => ∃ p ws, w = .ref p ∧ FT K S p ws ∧ VRels K S vs ws
  | .fl vs, w => ∃ p ws, w = .ref p ∧ FL S p ws ∧ VRels K S vs ws
  | .kl vs, w => ∃ p ws, w = .ref p ∧ FK K S p ws ∧ VRels K S vs ws
def VRels (K : PySem.W.Frag) (S : Sn) : List Val → List V → Prop
  | [], ws => ws = []
  | v :: vs, ws => ∃ w r, ws = w :: r ∧ VRel K S v w ∧ VRels K S vs r
end
def ORel (K : PySem.W.Frag) (cm : Nat → Addr) (S : Sn) (p : Addr) : Cell → Prop
  | .dead => True
  | .lst vs => ∃ ws, S.H p = some (.lst ws) ∧ VRels K S vs ws
  | .dK ks vs => ∃ ws, S.H p = some (.dK ((ks.map kk).zip ws)) ∧ (ks.length = vs.length ∧ ks.Nodup) ∧ VRels K S vs ws
  | .dT ks vs => ∃ ws, S.H p = some (.dT ((ks.map fun k => k.map kk).zip ws)) ∧ (ks.length = vs.length ∧ ks.Nodup) ∧ VRels K S vs ws
  | .ins c fs vs => ∃ dx ws, S.H p = some (.ins (cm c) dx ((fs.map strL).zip ws)) ∧ fs.length = vs.length ∧ VRels K S vs ws
structure MR (K : PySem.W.Frag) (cm : Nat → Addr) (S : Sn) : Prop where
  len : S.m.length = S.h.length
  inj : ∀ (i j : Nat) (p : Addr) (ci cj : Cell), S.m[i]? = some p → S.m[j]? = some p → S.h[i]? = some ci → ci ≠ .dead → S.h[j]? = some cj → cj ≠ .dead → i = j
  obj : ∀ (i : Nat) (c : Cell) (p : Addr), S.h[i]? = some c → S.m[i]? = some p → ORel K cm S p c
  zn : ∀ p ∈ S.z, S.H p ≠ none
  zc : ∀ (i : Nat) (p : Addr) (c : Cell), S.m[i]? = some p → S.h[i]? = some c → c ≠ .dead → p ∉ S.z
structure Ext (S S' : Sn) : Prop where
  zz : S'.z = S.z
  pre : ∀ (i : Nat) (p : Addr), S.m[i]? = some p → S'.m[i]? = some p
  keep : ∀ (p : Addr) (o : HO), S.H p = some o → ¬ Al S p → S'.H p = some o ∧ ¬ Al S' p
  rz : ∀ p ∈ S.z, S'.H p = S.H p
def SRel (K : PySem.W.Frag) (S : Sn) (sv : Env) (σ : St) : Prop := sv.length = σ.length ∧ ∀ (i : Nat) (v : Val), sv[i]? = some (some v) → ∃ w, σ[i]? = some (some w) ∧ VRel K S v w

/-- as Ext, whatever is held back -/
structure Lift (S S' : Sn) : Prop where
  pre : ∀ (i : Nat) (p : Addr), S.m[i]? = some p → S'.m[i]? = some p
  keep : ∀ (p : Addr) (o : HO), S.H p = some o → ¬ Al S p → S'.H p = some o ∧ ¬ Al S' p
theorem Ext.lift {S S' : Sn} (e : Ext S S') : Lift S S' := ⟨e.pre, e.keep⟩
theorem Lift.refl (S : Sn) : Lift S S := ⟨fun _ _ h => h, fun _ _ h k => ⟨h, k⟩⟩
theorem Lift.trans {S S1 S2 : Sn} (a : Lift S S1) (b : Lift S1 S2) : Lift S S2 := ⟨fun i p h => b.pre i p (a.pre i p h), fun p o h k => let ⟨h1, k1⟩ := a.keep p o h k; b.keep p o h1 k1⟩
theorem Ext.refl (S : Sn) : Ext S S := ⟨rfl, fun _ _ h => h, fun _ _ h k => ⟨h, k⟩, fun _ _ => rfl⟩
theorem Ext.trans {S S1 S2 : Sn} (a : Ext S S1) (b : Ext S1 S2) : Ext S S2 :=
  ⟨b.zz.trans a.zz, fun i p h => b.pre i p (a.pre i p h), fun p o h k => let ⟨h1, k1⟩ := a.keep p o h k; b.keep p o h1 k1, fun p h => (b.rz p (by rw [a.zz]; exact h)).trans (a.rz p h)⟩
section
variable {K : PySem.W.Frag} {cm : Nat → Addr} {S S' S1 : Sn}
theorem FT.lift {a : Addr} {xs : List V} (e : Lift S S') : FT K S a xs → FT K S' a xs
  | .inl h => .inl (e.keep _ _ h.1 h.2)
  | .inr h => .inr h
theorem FL.lift {a : Addr} {xs : List V} (e : Lift S S') (h : FL S a xs) : FL S' a xs := e.keep _ _ h.1 h.2
theorem FK.lift {a : Addr} {xs : List V} (e : Lift S S') : FK K S a xs → FK K S' a xs
  | .inl ⟨.inl h, k⟩ => let ⟨h', k'⟩ := e.keep _ _ h k; .inl ⟨.inl h', k'⟩
  | .inl ⟨.inr ⟨o, h⟩, k⟩ => let ⟨h', k'⟩ := e.keep _ _ h k; .inl ⟨.inr ⟨o, h'⟩, k'⟩
  | .inr h => .inr h
mutual
theorem VRel.lift (e : Lift S S') : ∀ (v : Val) {w : V}, VRel K S v w → VRel K S' v w
  | .non, _, h => h
  | .bl _, _, h => h
  | .int _, _, h => h
  | .str _, _, h => h
  | .ref _, _, ⟨p, h1, h2⟩ => ⟨p, h1, e.pre _ _ h2⟩
  | .tup vs, _, ⟨p, ws, h1, h2, h3⟩ => ⟨p, ws, h1, h2.lift e, VRels.lift e vs h3⟩
  | .fl vs, _, ⟨p, ws, h1, h2, h3⟩ => ⟨p, ws, h1, h2.lift e, VRels.lift e vs h3⟩
  | .kl vs, _, ⟨p, ws, h1, h2, h3⟩ => ⟨p, ws, h1, h2.lift e, VRels.lift e vs h3⟩
theorem VRels.lift (e : Lift S S') : ∀ (vs : List Val) {ws : List V}, VRels K S vs ws → VRels K S' vs ws
  | [], _, h => h
  | v :: vs, _, ⟨w, r, h1, h2, h3⟩ => ⟨w, r, h1, VRel.lift e v h2, VRels.lift e vs h3⟩
end
theorem VRel.ext (e : Ext S S') (v : Val) {w : V} (h : VRel K S v w) : VRel K S' v w := VRel.lift e.lift v h
theorem VRels.ext (e : Ext S S') (vs : List Val) {ws : List V} (h : VRels K S vs ws) : VRels K S' vs ws := VRels.lift e.lift vs h
theorem SRel.lift {sv : Env} {σ : L2.St} (e : Lift S S') (h : SRel K S sv σ) : SRel K S' sv σ :=
  ⟨h.1, fun i v q => let ⟨w, h1, h2⟩ := h.2 i v q; ⟨w, h1, VRel.lift e v h2⟩⟩
theorem SRel.ext {sv : Env} {σ : L2.St} (e : Ext S S') (h : SRel K S sv σ) : SRel K S' sv σ := h.lift e.lift
theorem SRel.set {sv : Env} {σ : St} {v : Val} {w : V} (h : SRel K S sv σ) (r : VRel K S v w) (i : Nat) : SRel K S (sv.set i (some v)) (σ.set i (some w)) := by
  refine ⟨by simp [h.1], fun j u q => ?_⟩
  by_cases e : i = j
  · subst e
    by_cases hl : i < sv.length
    · rw [List.getElem?_set_self hl] at q
      cases q
      exact ⟨w, by rw [List.getElem?_set_self (by rw [← h.1]; exact hl)], r⟩
    · rw [List.getElem?_eq_none (by simp; omega)] at q
      cases q
  · rw [List.getElem?_set_ne e] at q ⊢
    exact h.2 j u q
theorem VRels.length : ∀ {vs : List Val} {ws : List V}, VRels K S vs ws → vs.length = ws.length
  | [], _, h => by cases h; rfl
  | _ :: vs, _, ⟨w, r, h1, _, h3⟩ => by subst h1; simp [VRels.length h3]
theorem VRels.get : ∀ {vs : List Val} {ws : List V} {i : Nat} {v : Val}, VRels K S vs ws → vs[i]? = some v → ∃ w, ws[i]? = some w ∧ VRel K S v w
  | [], _, _, _, _, e => by simp at e
  | _ :: _, _, 0, _, ⟨w, r, h1, h2, _⟩, e => by subst h1; simp at e; subst e; exact ⟨w, rfl, h2⟩
  | _ :: vs, _, i + 1, _, ⟨w, r, h1, _, h3⟩, e => by subst h1; simpa using VRels.get (i := i) h3 (by simpa using e)
theorem VRels.append : ∀ {vs us : List Val} {ws xs : List V}, VRels K S vs ws → VRels K S us xs → VRels K S (vs ++ us) (ws ++ xs)
  | [], _, _, _, h, k => by cases h; exact k
  | _ :: vs, _, _, _, ⟨w, r, h1, h2, h3⟩, k => by subst h1; exact ⟨w, _, rfl, h2, VRels.append h3 k⟩
theorem VRels.take : ∀ {vs : List Val} {ws : List V} (n : Nat), VRels K S vs ws → VRels K S (vs.take n) (ws.take n)
  | _, _, 0, _ => by simp [VRels]
  | [], _, _ + 1, h => by cases h; simp [VRels]
  | _ :: vs, _, n + 1, ⟨w, r, h1, h2, h3⟩ => by subst h1; exact ⟨w, _, rfl, h2, VRels.take n h3⟩
theorem VRels.drop : ∀ {vs : List Val} {ws : List V} (n : Nat), VRels K S vs ws → VRels K S (vs.drop n) (ws.drop n)
  | _, _, 0, h => h
  | [], _, _ + 1, h => by cases h; simp [VRels]
  | _ :: vs, _, n + 1, ⟨w, r, h1, h2, h3⟩ => by subst h1; exact VRels.drop n h3
theorem VRels.set {v : Val} {w : V} (q : VRel K S v w) : ∀ {vs : List Val} {ws : List V} (n : Nat), VRels K S vs ws → VRels K S (vs.set n v) (ws.set n w)
  | [], _, _, h => by cases h; simp [VRels]
  | _ :: vs, _, 0, ⟨w', r, h1, h2, h3⟩ => by subst h1; exact ⟨w, _, rfl, q, h3⟩
  | _ :: vs, _, n + 1, ⟨w', r, h1, h2, h3⟩ => by subst h1; exact ⟨w', _, rfl, h2, VRels.set q n h3⟩
theorem VRels.erase : ∀ {vs : List Val} {ws : List V} (n : Nat), VRels K S vs ws → VRels K S (vs.eraseIdx n) (ws.eraseIdx n)
  | [], _, _, h => by cases h; simp [VRels]
  | _ :: vs, _, 0, ⟨w', r, h1, h2, h3⟩ => by subst h1; exact h3
  | _ :: vs, _, n + 1, ⟨w', r, h1, h2, h3⟩ => by subst h1; exact ⟨w', _, rfl, h2, VRels.erase n h3⟩
theorem VRels.reverse : ∀ {vs : List Val} {ws : List V}, VRels K S vs ws → VRels K S vs.reverse ws.reverse
  | [], _, h => by cases h; simp [VRels]
  | _ :: vs, _, ⟨w', r, h1, h2, h3⟩ => by
    subst h1
    rw [List.reverse_cons, List.reverse_cons]
    exact VRels.append (VRels.reverse h3) ⟨w', [], rfl, h2, rfl⟩
theorem VRels.nil : VRels K S [] [] := rfl
theorem VRels.cons {v : Val} {w : V} {vs : List Val} {ws : List V} (h : VRel K S v w) (r : VRels K S vs ws) : VRels K S (v :: vs) (w :: ws) := ⟨w, ws, rfl, h, r⟩
theorem FT.sq {a : Addr} {xs : List V} : FT K S a xs → SqT K S.H a xs
  | .inl h => .inl (.inl h.1)
  | .inr h => .inr h
theorem FL.sq {a : Addr} {xs : List V} (h : FL S a xs) : SqL K S.H a xs := .inl (.inl h.1)
theorem FK.sq {a : Addr} {xs : List V} : FK K S a xs → SqL K S.H a xs
  | .inl ⟨h, _⟩ => .inl h
  | .inr h => .inr h

/-! ### steps of the abstract state -/
/-- a new thing that is no cell -/
def Sn.lay (S : Sn) (p : Addr) (o : HO) : Sn := { S with H := upd S.H p o }
theorem MR.al (M : MR K cm S) {p : Addr} (a : Al S p) : S.H p ≠ none := by
  rcases a with a | ⟨i, c, h1, h2, h3⟩
  · exact M.zn p a
  have q := M.obj i c p h2 h1
  cases c with
  | dead => exact absurd rfl h3
  | lst vs => obtain ⟨ws, e, _⟩ := q; rw [e]; exact fun z => nomatch z
  | dK ks vs => obtain ⟨ws, e, _⟩ := q; rw [e]; exact fun z => nomatch z
  | dT ks vs => obtain ⟨ws, e, _⟩ := q; rw [e]; exact fun z => nomatch z
  | ins c fs vs => obtain ⟨dx, ws, e, _⟩ := q; rw [e]; exact fun z => nomatch z
theorem ext_lay (M : MR K cm S) {p : Addr} (hp : S.H p = none) (o : HO) : Ext S (S.lay p o) :=
  ⟨rfl, fun _ _ h => h, fun q u h k => ⟨by show upd S.H p o q = _; rw [upd_ne (ne_of_none h hp)]; exact h, k⟩, fun q hq => upd_ne fun z => M.zn q hq (by rw [z]; exact hp)⟩
theorem ORel.lift {p : Addr} {c : Cell} (e : Lift S S') (hH : ∀ o, S.H p = some o → S'.H p = some o) (h : ORel K cm S p c) : ORel K cm S' p c := by
  cases c with
  | dead => trivial
  | lst vs => obtain ⟨ws, h1, h2⟩ := h; exact ⟨ws, hH _ h1, VRels.lift e vs h2⟩
  | dK ks vs => obtain ⟨ws, h1, hl, h2⟩ := h; exact ⟨ws, hH _ h1, hl, VRels.lift e vs h2⟩
  | dT ks vs => obtain ⟨ws, h1, hl, h2⟩ := h; exact ⟨ws, hH _ h1, hl, VRels.lift e vs h2⟩
  | ins c fs vs => obtain ⟨dx, ws, h1, hl, h2⟩ := h; exact ⟨dx, ws, hH _ h1, hl, VRels.lift e vs h2⟩
theorem ORel.ext' {p : Addr} {c : Cell} (e : Ext S S') (hH : ∀ o, S.H p = some o → S'.H p = some o) (h : ORel K cm S p c) : ORel K cm S' p c := h.lift e.lift hH
theorem upd_nn {H : Hp} {p q : Addr} {o : HO} (h : H q ≠ none) : upd H p o q ≠ none := by
  unfold upd
  split
  · exact fun z => nomatch z
  · exact h
theorem mr_lay (M : MR K cm S) {p : Addr} (hp : S.H p = none) (o : HO) : MR K cm (S.lay p o) :=
  ⟨M.len, M.inj, fun i c q h1 h2 => (M.obj i c q h1 h2).ext' (ext_lay M hp o) fun u hu => by show upd S.H p o q = _; rw [upd_ne (ne_of_none hu hp)]; exact hu, fun q hq => upd_nn (M.zn q hq), M.zc⟩
theorem not_al (M : MR K cm S) {p : Addr} (hp : S.H p = none) : ¬ Al S p := fun a => M.al a hp
/-- a new cell -/
def Sn.new (S : Sn) (p : Addr) (o : HO) (c : Cell) : Sn := ⟨S.m ++ [p], S.h ++ [c], upd S.H p o, S.z⟩
theorem get_snoc {α : Type} {l : List α} {x y : α} {i : Nat} (h : (l ++ [x])[i]? = some y) : l[i]? = some y ∨ (i = l.length ∧ y = x) := by
  by_cases hi : i < l.length
  · rw [List.getElem?_append_left hi] at h; exact .inl h
  · rw [List.getElem?_append_right (by omega)] at h
    have : i - l.length = 0 := by
      rcases Nat.eq_zero_or_pos (i - l.length) with z | z
      · exact z
      · rw [List.getElem?_eq_none (by simp; omega)] at h; cases h
    rw [this] at h
    exact .inr ⟨by omega, by simpa using h.symm⟩
theorem get_snoc_of {α : Type} {l : List α} {x y : α} {i : Nat} (h : l[i]? = some y) : (l ++ [x])[i]? = some y := by
  have hi : i < l.length := (List.getElem?_eq_some_iff.mp h).1
  rw [List.getElem?_append_left hi]; exact h
theorem al_new {p q : Addr} {o : HO} {c : Cell} (M : MR K cm S) (a : Al (S.new p o c) q) : Al S q ∨ q = p := by
  rcases a with a | ⟨i, c', h1, h2, h3⟩
  · exact .inl (.inl a)
  rcases get_snoc h1 with z | ⟨_, z⟩
  · rcases get_snoc h2 with y | ⟨y, _⟩
    · exact .inl (.inr ⟨i, c', z, y, h3⟩)
    · have : i < S.m.length := (List.getElem?_eq_some_iff.mp z).1
      rw [M.len] at this; omega
  · exact .inr z
theorem ext_new (M : MR K cm S) {p : Addr} (hp : S.H p = none) (o : HO) (c : Cell) : Ext S (S.new p o c) :=
  ⟨rfl, fun i q h => get_snoc_of h, fun q u h k => ⟨by show upd S.H p o q = _; rw [upd_ne (ne_of_none h hp)]; exact h, fun a => (al_new M a).elim k fun z => by rw [z, hp] at h; cases h⟩, fun q hq => upd_ne fun z => M.zn q hq (by rw [z]; exact hp)⟩
theorem mr_new (M : MR K cm S) {p : Addr} (hp : S.H p = none) {o : HO} {c : Cell} (hc : ORel K cm (S.new p o c) p c) : MR K cm (S.new p o c) := by
  have nlt : ∀ {i : Nat} {q : Addr}, S.m[i]? = some q → i < S.h.length := fun z => by rw [← M.len]; exact (List.getElem?_eq_some_iff.mp z).1
  refine ⟨by show (S.m ++ [p]).length = (S.h ++ [c]).length; simp [M.len], fun i j q ci cj h1 h2 h3 h4 h5 h6 => ?_, fun i c' q h1 h2 => ?_, fun q hq => upd_nn (M.zn q hq), fun i q c' h1 h2 h3 => ?_⟩
  · have alp : ∀ {i : Nat} {c' : Cell}, S.m[i]? = some p → (S.h ++ [c])[i]? = some c' → c' ≠ .dead → False := fun {i c'} z1 z2 z3 => by
      rcases get_snoc z2 with y | ⟨y, _⟩
      · exact not_al M hp (.inr ⟨i, c', z1, y, z3⟩)
      · have := nlt z1; omega
    rcases get_snoc h1 with z | ⟨z, zp⟩
    · rcases get_snoc h2 with y | ⟨y, yp⟩
      · rcases get_snoc h3 with x | ⟨x, _⟩
        · rcases get_snoc h5 with w | ⟨w, _⟩
          · exact M.inj i j q ci cj z y x h4 w h6
          · have := nlt y; omega
        · have := nlt z; omega
      · subst yp; exact (alp z h3 h4).elim
    · rcases get_snoc h2 with y | ⟨y, yp⟩
      · subst zp; exact (alp y h5 h6).elim
      · omega
  · rcases get_snoc h2 with z | ⟨z, zp⟩
    · rcases get_snoc h1 with y | ⟨y, _⟩
      · by_cases hd : c' = .dead
        · subst hd; trivial
        · have e : Ext S (S.new p o c) := ext_new M hp o c
          refine (M.obj i c' q y z).ext' e fun u hu => ?_
          show upd S.H p o q = _
          rw [upd_ne (ne_of_none hu hp)]; exact hu
      · have := nlt z; omega
    · subst zp
      rcases get_snoc h1 with y | ⟨_, yp⟩
      · have := (List.getElem?_eq_some_iff.mp y).1
        rw [← M.len] at this; omega
      · subst yp; exact hc
  · rcases get_snoc h1 with y | ⟨_, yp⟩
    · rcases get_snoc h2 with z | ⟨z, _⟩
      · exact M.zc i q c' y z h3
      · have := nlt y; omega
    · subst yp; exact fun hq => M.zn _ hq hp
/-- a cell written -/
def Sn.put (S : Sn) (i : Nat) (p : Addr) (o : HO) (c : Cell) : Sn := ⟨S.m, S.h.set i c, upd S.H p o, S.z⟩
theorem get_set {α : Type} {l : List α} {x y : α} {i j : Nat} (h : (l.set i x)[j]? = some y) : (i ≠ j ∧ l[j]? = some y) ∨ (i = j ∧ y = x ∧ i < l.length) := by
  by_cases e : i = j
  · subst e
    have hl : i < l.length := by have := (List.getElem?_eq_some_iff.mp h).1; simpa using this
    rw [List.getElem?_set_self hl] at h
    exact .inr ⟨rfl, by simpa using h.symm, hl⟩
  · rw [List.getElem?_set_ne e] at h; exact .inl ⟨e, h⟩
theorem al_put {i : Nat} {p q : Addr} {o : HO} {c c0 : Cell} (hm : S.m[i]? = some p) (hc : S.h[i]? = some c0) (hd : c0 ≠ .dead) (a : Al (S.put i p o c) q) : Al S q := by
  rcases a with a | ⟨j, c', h1, h2, h3⟩
  · exact .inl a
  rcases get_set h2 with ⟨_, z⟩ | ⟨z, _⟩
  · exact .inr ⟨j, c', h1, z, h3⟩
  · subst z
    exact .inr ⟨i, c0, h1, hc, hd⟩
theorem ext_put (M : MR K cm S) {i : Nat} {p : Addr} {o : HO} {c c0 : Cell} (hm : S.m[i]? = some p) (hc : S.h[i]? = some c0) (hd : c0 ≠ .dead) : Ext S (S.put i p o c) :=
  ⟨rfl, fun _ _ h => h, fun q u h k => ⟨by
    show upd S.H p o q = _
    rw [upd_ne (fun z => k (by rw [z]; exact .inr ⟨i, c0, hm, hc, hd⟩))]; exact h, fun a => k (al_put hm hc hd a)⟩, fun q hq => upd_ne fun z => M.zc i p c0 hm hc hd (by rw [← z]; exact hq)⟩
theorem mr_put (M : MR K cm S) {i : Nat} {p : Addr} {o : HO} {c c0 : Cell} (hm : S.m[i]? = some p) (hc : S.h[i]? = some c0) (hd : c0 ≠ .dead) (hn : ORel K cm (S.put i p o c) p c) : MR K cm (S.put i p o c) := by
  refine ⟨by show S.m.length = (S.h.set i c).length; simp [M.len], fun a b q ca cb h1 h2 h3 h4 h5 h6 => ?_, fun j c' q h1 h2 => ?_, fun q hq => upd_nn (M.zn q hq), fun j q c' h1 h2 h3 => ?_⟩
  · have f : ∀ {j : Nat} {cj : Cell}, (S.h.set i c)[j]? = some cj → cj ≠ .dead → ∃ c1, S.h[j]? = some c1 ∧ c1 ≠ .dead := fun {j cj} z1 z2 => by
      rcases get_set z1 with ⟨_, z⟩ | ⟨z, _⟩
      · exact ⟨cj, z, z2⟩
      · subst z; exact ⟨c0, hc, hd⟩
    obtain ⟨c1, x1, y1⟩ := f h3 h4
    obtain ⟨c2, x2, y2⟩ := f h5 h6
    exact M.inj a b q c1 c2 h1 h2 x1 y1 x2 y2
  · rcases get_set h1 with ⟨ne, z⟩ | ⟨z, z', _⟩
    · by_cases hd' : c' = .dead
      · subst hd'; trivial
      · have hq : q ≠ p := fun e => ne (by
          subst e
          exact M.inj i j q c0 c' hm h2 hc hd z hd')
        refine (M.obj j c' q z h2).ext' (ext_put M hm hc hd) fun u hu => ?_
        show upd S.H p o q = _
        rw [upd_ne hq]; exact hu
    · subst z z'
      have h2 : S.m[i]? = some q := h2
      rw [hm] at h2; cases h2
      exact hn
  · rcases get_set h2 with ⟨_, z⟩ | ⟨z, _⟩
    · exact M.zc j q c' h1 z h3
    · subst z; exact M.zc i q c0 h1 hc hd
/-- a cell that is no more -/
def Sn.kill (S : Sn) (i : Nat) : Sn := ⟨S.m, S.h.set i .dead, S.H, S.z⟩
theorem al_kill {i : Nat} {q : Addr} (a : Al (S.kill i) q) : Al S q := by
  rcases a with a | ⟨j, c', h1, h2, h3⟩
  · exact .inl a
  rcases get_set h2 with ⟨_, z⟩ | ⟨_, z, _⟩
  · exact .inr ⟨j, c', h1, z, h3⟩
  · exact absurd z h3
theorem ext_kill {i : Nat} : Ext S (S.kill i) := ⟨rfl, fun _ _ h => h, fun q u h k => ⟨h, fun a => k (al_kill a)⟩, fun _ _ => rfl⟩
theorem mr_kill (M : MR K cm S) (i : Nat) : MR K cm (S.kill i) := by
  refine ⟨by show S.m.length = (S.h.set i .dead).length; simp [M.len], fun a b q ca cb h1 h2 h3 h4 h5 h6 => ?_, fun j c' q h1 h2 => ?_, M.zn, fun j q c' h1 h2 h3 => ?_⟩
  · have f : ∀ {j : Nat} {cj : Cell}, (S.h.set i .dead)[j]? = some cj → cj ≠ .dead → S.h[j]? = some cj := fun {j cj} z1 z2 => by
      rcases get_set z1 with ⟨_, z⟩ | ⟨_, z, _⟩
      · exact z
      · exact absurd z z2
    exact M.inj a b q ca cb h1 h2 (f h3 h4) h4 (f h5 h6) h6
  · rcases get_set h1 with ⟨_, z⟩ | ⟨_, z, _⟩
    · exact (M.obj j c' q z h2).ext' ext_kill fun _ h => h
    · subst z; trivial
  · rcases get_set h2 with ⟨_, z⟩ | ⟨_, z, _⟩
    · exact M.zc j q c' h1 z h3
    · exact absurd z h3
theorem kill_not_al (M : MR K cm S) {i : Nat} {p : Addr} (hm : S.m[i]? = some p) (ha : ∃ c, S.h[i]? = some c ∧ c ≠ .dead) : ¬ Al (S.kill i) p := by
  obtain ⟨c, hc, hd⟩ := ha
  rintro (a | ⟨j, c', h1, h2, h3⟩)
  · exact M.zc i p c hm hc hd a
  rcases get_set h2 with ⟨ne, z⟩ | ⟨_, z, _⟩
  · exact ne (M.inj i j p c c' hm h1 hc hd z h3)
  · exact h3 z
end

/-! ### what is wanted behind a step -/
/-- what is wanted of exceptions: class, fields, state -/
abbrev XW := Nat → List Val → Sn → Prop
def Post (K : PySem.W.Frag) (cm : Nat → Addr) (W : XW) (S : Sn) {α : Type} (r : R α) (P : α → Sn → Prop) : Prop := match r with
  | .ok a h' => ∀ S', S'.h = h' → Ext S S' → MR K cm S' → P a S'
  | .exc c vs h' => ∀ S', S'.h = h' → Ext S S' → MR K cm S' → W c vs S'
  | .bad => False
section
variable {K : PySem.W.Frag} {cm : Nat → Addr} {W : XW} {S S' S1 : Sn} {α β : Type}
theorem Post.step {r : R α} {P : α → Sn → Prop} (e : Ext S S1) (h : Post K cm W S r P) : Post K cm W S1 r P := by
  cases r with
  | ok a h' => exact fun S' q e' M => h S' q (e.trans e') M
  | exc c vs h' => exact fun S' q e' M => h S' q (e.trans e') M
  | bad => exact h
theorem Post.bind {r : R α} {f : α → Hv → R β} {P : β → Sn → Prop} {P' : α → Sn → Prop} (h : Post K cm W S (r.bind f) P) (k : ∀ a S1, Ext S S1 → MR K cm S1 → Post K cm W S1 (f a S1.h) P → P' a S1) : Post K cm W S r P' := by
  cases r with
  | ok a h' => exact fun S' q e' M => k a S' e' M (Post.step e' (by rw [q]; exact h))
  | exc c vs h' => exact h
  | bad => exact h
theorem Post.imp {r : R α} {P P' : α → Sn → Prop} (h : Post K cm W S r P) (k : ∀ a S1, Ext S S1 → MR K cm S1 → P a S1 → P' a S1) : Post K cm W S r P' := by
  cases r with
  | ok a h' => exact fun S' q e' M => k a S' e' M (h S' q e' M)
  | exc c vs h' => exact h
  | bad => exact h
/-- an address reserved, written, given back -/
def Sn.res (S : Sn) (p : Addr) (o : HO) : Sn := ⟨S.m, S.h, upd S.H p o, p :: S.z⟩
theorem Post.here {a : α} {P : α → Sn → Prop} (h : Post K cm W S (.ok a S.h) P) (M : MR K cm S) : P a S := h S rfl (Ext.refl S) M
end

/-! ### the readings that a semantics gives -/
section
variable (K : PySem.W.Frag) (cm : Nat → Addr) (W : XW)
def tE (f : SE) : TE := fun σ H Q => ∃ S sv, S.H = H ∧ MR K cm S ∧ SRel K S sv σ ∧ Post K cm W S (f sv S.h) fun v S' => ∀ w, VRel K S' v w → Q w S'.H
def tA (f : SA) : TA := fun σ H Q => ∃ S sv, S.H = H ∧ MR K cm S ∧ SRel K S sv σ ∧ Post K cm W S (f sv S.h) fun v S' => ∀ w, VRels K S' v w → Q w S'.H
def tT (f : ST) : TT := fun σ H Q => ∃ S sv, S.H = H ∧ MR K cm S ∧ SRel K S sv σ ∧ Post K cm W S (f sv S.h) fun b S' => Q b S'.H
def FlP (D : Ends) : Fl → Sn → Prop
  | .nx sv, S => ∀ σ, SRel K S sv σ → D.nx σ S.H
  | .rt v, S => ∀ w, VRel K S v w → D.rt w S.H
  | .bk sv, S => ∀ σ, SRel K S sv σ → D.bk σ S.H
  | .ct sv, S => ∀ σ, SRel K S sv σ → D.ct σ S.H
def tSt (f : SS) : TS := fun D σ H => ∃ S sv, S.H = H ∧ MR K cm S ∧ SRel K S sv σ ∧ Post K cm W S (f sv S.h) (FlP K D)
def tG (f : SG) : TG := fun v σ H Q => ∃ S sv u, S.H = H ∧ MR K cm S ∧ SRel K S sv σ ∧ VRel K S u v ∧ Post K cm W S (f u sv S.h) fun sv' S' => ∀ σ', SRel K S' sv' σ' → Q σ' S'.H
/-- an operation of two values, of one, of an argument list -/
def OpS (r : R2) (g : Val → Val → Hv → R Val) : Prop := ∀ (S : Sn) (v1 v2 : Val) (w1 w2 : V) (Q : VK), MR K cm S → VRel K S v1 w1 → VRel K S v2 w2 → Post K cm W S (g v1 v2 S.h) (fun v S' => ∀ w, VRel K S' v w → Q w S'.H) → r w1 w2 S.H Q
def UnS (r : V → Hp → VK → Prop) (g : Val → Hv → R Val) : Prop := ∀ (S : Sn) (v : Val) (w : V) (Q : VK), MR K cm S → VRel K S v w → Post K cm W S (g v S.h) (fun v S' => ∀ w, VRel K S' v w → Q w S'.H) → r w S.H Q
def CaS (r : List V → Hp → VK → Prop) (g : List Val → Hv → R Val) : Prop := ∀ (S : Sn) (vs : List Val) (ws : List V) (Q : VK), MR K cm S → VRels K S vs ws → Post K cm W S (g vs S.h) (fun v S' => ∀ w, VRel K S' v w → Q w S'.H) → r ws S.H Q
end
theorem PE.imp {X : Cx} {e : Expr} {t t' : TE} (h : PE X e t) (k : ∀ σ H Q, t' σ H Q → t σ H Q) : PE X e t' := ⟨fun pins s σ H Q I q => h.run pins s σ H Q I (k _ _ _ q)⟩
theorem PA.imp {X : Cx} {e : List Expr} {t t' : TA} (h : PA X e t) (k : ∀ σ H Q, t' σ H Q → t σ H Q) : PA X e t' := ⟨fun p pins s σ H Q I q => h.run p pins s σ H Q I (k _ _ _ q)⟩
theorem PT.imp {X : Cx} {e : Expr} {t t' : TT} (h : PT X e t) (k : ∀ σ H Q, t' σ H Q → t σ H Q) : PT X e t' := ⟨fun pins s σ H Q I q => h.run pins s σ H Q I (k _ _ _ q)⟩
theorem PW.imp {X : Cx} {e : Expr} {t t' : TT} (h : PW X e t) (k : ∀ σ H Q, t' σ H Q → t σ H Q) : PW X e t' := ⟨fun wh pins s σ H Q I q => h.run wh pins s σ H Q I (k _ _ _ q)⟩
theorem PS.imp {X : Cx} {e : Stmt} {t t' : TS} (h : PS X e t) (k : ∀ D σ H, t' D σ H → t D σ H) : PS X e t' := ⟨fun pins s σ H D I q => h.run pins s σ H D I (k _ _ _ q)⟩
theorem PSs.imp {X : Cx} {e : List Stmt} {t t' : TS} (h : PSs X e t) (k : ∀ D σ H, t' D σ H → t D σ H) : PSs X e t' := ⟨fun pins s σ H D I q => h.run pins s σ H D I (k _ _ _ q)⟩
theorem PG.imp {X : Cx} {e : Expr} {t t' : TG} (h : PG X e t) (k : ∀ v σ H Q, t' v σ H Q → t v σ H Q) : PG X e t' := ⟨fun pins s σ H v u Q I r q => h.run pins s σ H v u Q I r (k _ _ _ _ q)⟩
end Sx

set_option Elab.async false
set_option linter.all false
set_option maxRecDepth 100000
set_option maxHeartbeats 2000000
/-! SxRules: each construct's semantics and its rule. -/
namespace Sx
open PySem PySem.Spec L2
open PyProof.Rows hiding St
abbrev JE (X : Cx) (cm : Nat → Addr) (W : XW) (e : Expr) (f : SE) : Prop := PE X e (tE X.K cm W f)
abbrev JA (X : Cx) (cm : Nat → Addr) (W : XW) (e : List Expr) (f : SA) : Prop := PA X e (tA X.K cm W f)
abbrev JT (X : Cx) (cm : Nat → Addr) (W : XW) (e : Expr) (f : ST) : Prop := PT X e (tT X.K cm W f)
abbrev JW (X : Cx) (cm : Nat → Addr) (W : XW) (e : Expr) (f : ST) : Prop := PW X e (tT X.K cm W f)
abbrev JS (X : Cx) (cm : Nat → Addr) (W : XW) (e : Stmt) (f : SS) : Prop := PS X e (tSt X.K cm W f)
abbrev JB (X : Cx) (cm : Nat → Addr) (W : XW) (e : List Stmt) (f : SS) : Prop := PSs X e (tSt X.K cm W f)

/-! ### the semantics' combinators -/
def sC (v : Val) : SE := fun _ h => .ok v h
def sVar (i : Nat) : SE := fun sv h => match sv[i]? with
  | some (some v) => .ok v h
  | _ => .bad
def sBin (g : Val → Val → Hv → R Val) (a b : SE) : SE := fun sv h => (a sv h).bind fun x h1 => (b sv h1).bind fun y h2 => g x y h2
def sUn (g : Val → Hv → R Val) (a : SE) : SE := fun sv h => (a sv h).bind g
def sNil : SA := fun _ h => .ok [] h
def sCons (a : SE) (r : SA) : SA := fun sv h => (a sv h).bind fun x h1 => (r sv h1).bind fun xs h2 => .ok (x :: xs) h2
def sCall (F : SF) (a : SA) : SE := fun sv h => (a sv h).bind F
def sTup (a : SA) : SE := fun sv h => (a sv h).bind fun vs h1 => if vs.length ≤ 16777216 then .ok (.tup vs) h1 else .bad
def sLst (a : SA) : SE := fun sv h => (a sv h).bind fun vs h1 => if vs.length ≤ 16777216 then .ok (.fl vs) h1 else .bad
/-- a list that is to be changed: a new cell -/
def sLstN (a : SA) : SE := fun sv h => (a sv h).bind fun vs h1 => if vs.length ≤ 16777216 then .ok (.ref h1.length) (h1 ++ [.lst vs]) else .bad
def sIf (c : ST) (a b : SE) : SE := fun sv h => (c sv h).bind fun k h1 => if k = true then a sv h1 else b sv h1
/-- an expression's value that is True or False, as a test -/
def sTest (a : SE) : ST := fun sv h => (a sv h).bind fun v h1 => match v with
  | .bl b => .ok b h1
  | _ => .bad
def sChain (g g' : Val → Val → Hv → R Val) (a b c : SE) : SE := fun sv h => (a sv h).bind fun x h1 => (b sv h1).bind fun y h2 => (g x y h2).bind fun z h3 => match z with
  | .bl true => (c sv h3).bind fun w h4 => g' y w h4
  | .bl false => .ok (.bl false) h3
  | _ => .bad
def tAnd' (a b : ST) : ST := fun sv h => (a sv h).bind fun k h1 => if k = true then b sv h1 else .ok false h1
def tOr' (a b : ST) : ST := fun sv h => (a sv h).bind fun k h1 => if k = true then .ok true h1 else b sv h1
def tNot' (a : ST) : ST := fun sv h => (a sv h).bind fun k h1 => .ok (!k) h1
/-- and, or, not as values, of True and False alone -/
def sAnd (a b : SE) : SE := fun sv h => (a sv h).bind fun v h1 => match v with
  | .bl true => b sv h1
  | .bl false => .ok (.bl false) h1
  | _ => .bad
def sOr (a b : SE) : SE := fun sv h => (a sv h).bind fun v h1 => match v with
  | .bl true => .ok (.bl true) h1
  | .bl false => b sv h1
  | _ => .bad
def sNotV (a : SE) : SE := fun sv h => (a sv h).bind fun v h1 => match v with
  | .bl k => .ok (.bl (!k)) h1
  | _ => .bad
def sSkip : SS := fun sv h => .ok (.nx sv) h
def sSeq (a b : SS) : SS := fun sv h => (a sv h).bind fun f h1 => match f with
  | .nx s => b s h1
  | f => .ok f h1
def sSet (i : Nat) (a : SE) : SS := fun sv h => (a sv h).bind fun v h1 => .ok (.nx (sv.set i (some v))) h1
def sRet (a : SE) : SS := fun sv h => (a sv h).bind fun v h1 => .ok (.rt v) h1
def sRetN : SS := fun _ h => .ok (.rt .non) h
def sExpr (a : SE) : SS := fun sv h => (a sv h).bind fun _ h1 => .ok (.nx sv) h1
def sIte (c : ST) (a b : SS) : SS := fun sv h => (c sv h).bind fun k h1 => if k = true then a sv h1 else b sv h1
def sBrk : SS := fun sv h => .ok (.bk sv) h
def sCnt : SS := fun sv h => .ok (.ct sv) h
def sWhile (c : ST) (b : SS) : Nat → SS
  | 0 => fun _ _ => .bad
  | n + 1 => fun sv h => (c sv h).bind fun k h1 => if k = true then (b sv h1).bind fun f h2 => (match f with
      | .nx s => sWhile c b n s h2
      | .ct s => sWhile c b n s h2
      | .bk s => .ok (.nx s) h2
      | .rt v => .ok (.rt v) h2) else .ok (.nx sv) h1
abbrev SI := Env → Hv → R (List Val)
def sForL (g : SG) (b : SS) : List Val → SS
  | [] => fun sv h => .ok (.nx sv) h
  | v :: vs => fun sv h => (g v sv h).bind fun s1 h1 => (b s1 h1).bind fun f h2 => match f with
      | .nx s => sForL g b vs s h2
      | .ct s => sForL g b vs s h2
      | .bk s => .ok (.nx s) h2
      | .rt v => .ok (.rt v) h2
def sFor (it : SI) (g : SG) (b : SS) : SS := fun sv h => (it sv h).bind fun xs h1 => sForL g b xs sv h1
def wipeE (sv : Env) : List Nat → Env
  | [] => sv
  | v :: vs => (wipeE sv vs).set v none
def sLcL (g : SG) (t : ST) (e : SE) (sv : Env) : Nat → List Val → Hv → R (List Val)
  | _, [], h => .ok [] h
  | n, v :: vs, h => (g v sv h).bind fun s1 h1 => (t s1 h1).bind fun k h2 => if k = true then (e s1 h2).bind fun y h3 => if n < 16777216 then (sLcL g t e sv (n + 1) vs h3).bind fun ys h4 => .ok (y :: ys) h4 else .bad else sLcL g t e sv n vs h2
/-- outer results as inner ones: an exception is none -/
def noX {α : Type} : R α → R α
  | .exc _ _ _ => .bad
  | r => r
/-- a comprehension: its list is not changed again -/
def sLc (own : List Nat) (it : SI) (g : SG) (t : ST) (e : SE) : SE := fun sv h => (it sv h).bind fun xs h1 => noX ((sLcL g t e (wipeE sv own) 0 xs h1).bind fun ys h2 => .ok (.fl ys) h2)
def tTrue : ST := fun _ h => .ok true h
/-- a cell's list is taken out of the cells: it is not changed again -/
def frz : Val → Hv → R Val
  | .ref i, h => match h[i]? with
    | some (.lst vs) => .ok (.fl vs) (h.set i .dead)
    | _ => .bad
  | v, h => .ok v h
def sFrz (a : SE) : SE := fun sv h => (a sv h).bind frz
/-- the same of a name -/
def sFrzV (i : Nat) : SS := fun sv h => (sVar i sv h).bind fun v h1 => (frz v h1).bind fun u h2 => .ok (.nx (sv.set i (some u))) h2
def gNm (i : Nat) : SG := fun v sv h => .ok (sv.set i (some v)) h
def gTp (is : List Nat) : SG := fun v sv h => match v with
  | .tup vs => if vs.length = is.length then .ok ((is.zip vs).foldl (fun s p => s.set p.1 (some p.2)) sv) h else .bad
  | _ => .bad
def sAsg (a : SE) (g : SG) : SS := fun sv h => (a sv h).bind fun v h1 => (g v sv h1).bind fun s h2 => .ok (.nx s) h2
/-- more turns than any loop does -/
def bigN : Nat := 1000000000000
/-- a def's body: n arguments, k names -/
def sFn (n k : Nat) (b : SS) : SF := fun us h => if us.length = n then (match b (us.map some ++ List.replicate (k - n) none) h with
    | .ok (.rt v) h1 => .ok v h1
    | .ok (.nx _) h1 => .ok .non h1
    | .ok _ _ => .bad
    | .exc c v h1 => .exc c v h1
    | .bad => .bad) else .bad

/-! ### the rules -/
section
variable {X : Cx} {cm : Nat → Addr} {W : XW} {pos : Pos} {e a b c : Expr} {es : List Expr} {fa fb fc : SE} {fs : SA}
theorem je_c {w : V} {v : Val} (h : PE X e (tC w)) (hv : ∀ S, VRel X.K S v w) : JE X cm W e (sC v) := PE.imp h fun σ H Q ⟨S, sv, e, M, r, p⟩ => by
  subst e
  exact p.here M _ (hv S)
theorem je_int {i : Int} {j} : JE X cm W (.Constant (.int i) j pos) (sC (.int i)) := je_c pe_int fun _ => rfl
theorem je_bl {i : Bool} {j} : JE X cm W (.Constant (.bool i) j pos) (sC (.bl i)) := je_c pe_bl fun _ => rfl
theorem je_non {j} : JE X cm W (.Constant .none j pos) (sC .non) := je_c pe_non fun _ => rfl
theorem je_str {x : Str} {j} {l : List Nat} (h : x.cps.toList = l) : JE X cm W (.Constant (.str x) j pos) (sC (.str l)) := je_c pe_str fun _ => ⟨x, rfl, h⟩
theorem je_glob {x : Str} {v : Val} {w : V} {u : Value} (hg : Gl X x) (hm : X.mg x = some u) (r : RelV w u) (hv : ∀ S, VRel X.K S v w) (hd : (x == ("__debug__" : Str)) = false := by decide) : JE X cm W (.Name x pos) (sC v) :=
  je_c (pe_glob hg hm r hd) hv
theorem je_var (i : Nat) {x : Str} (hN : X.N[i]? = some x := by rfl) (hv : Vis X.env.scope x := by first | exact Or.inl rfl | exact Or.inr (Or.inl rfl) | exact Or.inr (Or.inr rfl)) (hd : (x == ("__debug__" : Str)) = false := by decide)
    (hcd : (x == ("__classdict__" : Str)) = false := by decide) : JE X cm W (.Name x pos) (sVar i) := PE.imp (pe_var hN hv hd hcd) fun σ H Q ⟨S, sv, e, M, r, p⟩ => by
  subst e
  unfold sVar at p
  cases q : sv[i]? with
  | none => rw [q] at p; exact p.elim
  | some o =>
    cases o with
    | none => rw [q] at p; exact p.elim
    | some v =>
      rw [q] at p
      obtain ⟨w, h1, h2⟩ := r.2 i v q
      exact ⟨w, h1, p.here M w h2⟩
theorem je_bin {op : Operator} {r : R2} {g : Val → Val → Hv → R Val} (ho : OpR X (binaryOp op) r) (hs : OpS X.K cm W r g) (ha : JE X cm W a fa) (hb : JE X cm W b fb) : JE X cm W (.BinOp a op b pos) (sBin g fa fb) :=
  PE.imp (pe_op ho ha hb) fun σ H Q ⟨S, sv, e, M, r, p⟩ => by
    subst e
    refine ⟨S, sv, rfl, M, r, Post.bind p fun x S1 e1 M1 p1 w1 r1 => ?_⟩
    refine ⟨S1, sv, rfl, M1, r.ext e1, Post.bind p1 fun y S2 e2 M2 p2 w2 r2 => ?_⟩
    exact hs S2 x y w1 w2 Q M2 (VRel.ext e2 x r1) r2 p2
theorem je_cmp {op : CmpOp} {r : R2} {g : Val → Val → Hv → R Val} (ho : OpR X (compareOp op) r) (hs : OpS X.K cm W r g) (ha : JE X cm W a fa) (hb : JE X cm W b fb) (hm : behindInMarks op b = false) : JE X cm W (.Compare a [op] [b] pos) (sBin g fa fb) :=
  PE.imp (pe_cmpR ho ha hb hm) fun σ H Q ⟨S, sv, e, M, r, p⟩ => by
    subst e
    refine ⟨S, sv, rfl, M, r, Post.bind p fun x S1 e1 M1 p1 w1 r1 => ?_⟩
    refine ⟨S1, sv, rfl, M1, r.ext e1, Post.bind p1 fun y S2 e2 M2 p2 w2 r2 => ?_⟩
    exact hs S2 x y w1 w2 Q M2 (VRel.ext e2 x r1) r2 p2
theorem jt_cmp {op : CmpOp} {r : R2} {g : Val → Val → Hv → R Val} (ho : OpR X (compareOp op) r) (hs : OpS X.K cm W r g) (ha : JE X cm W a fa) (hb : JE X cm W b fb) (hm : behindInMarks op b = false) : JT X cm W (.Compare a [op] [b] pos) (sTest (sBin g fa fb)) :=
  PT.imp (pt_cmpR ho ha hb hm) fun σ H Q ⟨S, sv, e, M, r, p⟩ => by
    subst e
    have p : Post X.K cm W S ((sBin g fa fb sv S.h).bind fun v h1 => match v with | .bl b => R.ok b h1 | _ => .bad) fun b S' => Q b S'.H := p
    have p' := Post.bind (P' := fun v S' => ∀ w, VRel X.K S' v w → ∃ k, w = .bl k ∧ Q k S'.H) p fun v S1 e1 M1 p1 w rw' => by
      cases v with
      | bl k => exact ⟨k, rw', p1.here M1⟩
      | _ => exact p1.elim
    refine ⟨S, sv, rfl, M, r, Post.bind p' fun x S1 e1 M1 p1 w1 r1 => ?_⟩
    refine ⟨S1, sv, rfl, M1, r.ext e1, Post.bind p1 fun y S2 e2 M2 p2 w2 r2 => ?_⟩
    exact hs S2 x y w1 w2 _ M2 (VRel.ext e2 x r1) r2 p2
theorem je_un {op : UnaryOp} {r : V → Hp → VK → Prop} {g : Val → Hv → R Val} (ho : UnR X (unaryOp op) r) (hs : UnS X.K cm W r g) (ha : JE X cm W a fa) : JE X cm W (.UnaryOp op a pos) (sUn g fa) :=
  PE.imp (pe_un ho ha) fun σ H Q ⟨S, sv, e, M, r, p⟩ => by
    subst e
    exact ⟨S, sv, rfl, M, r, Post.bind p fun x S1 e1 M1 p1 w1 r1 => hs S1 x w1 Q M1 r1 p1⟩
theorem chain_post {r r' : R2} {g g' : Val → Val → Hv → R Val} (hs : OpS X.K cm W r g) (hs' : OpS X.K cm W r' g') {σ : L2.St} {S : Sn} {sv : Env} {Q : VK} (M : MR X.K cm S) (rr : SRel X.K S sv σ)
    (p : Post X.K cm W S (sChain g g' fa fb fc sv S.h) fun v S' => ∀ w, VRel X.K S' v w → Q w S'.H) : tChain r r' (tE X.K cm W fa) (tE X.K cm W fb) (tE X.K cm W fc) σ S.H Q := by
  refine ⟨S, sv, rfl, M, rr, Post.bind p fun x S1 e1 M1 p1 w1 r1 => ?_⟩
  refine ⟨S1, sv, rfl, M1, rr.ext e1, Post.bind p1 fun y S2 e2 M2 p2 w2 r2 => ?_⟩
  refine hs S2 x y w1 w2 _ M2 (VRel.ext e2 x r1) r2 (Post.bind p2 fun z S3 e3 M3 p3 w3 r3 => ?_)
  cases z with
  | bl k =>
    refine ⟨k, r3, ?_⟩
    cases k with
    | true =>
      rw [if_pos rfl]
      exact ⟨S3, sv, rfl, M3, rr.ext (e1.trans (e2.trans e3)), Post.bind p3 fun u S4 e4 M4 p4 w4 r4 => hs' S4 y u w2 w4 Q M4 (VRel.ext (e3.trans e4) y r2) r4 p4⟩
    | false =>
      rw [if_neg Bool.false_ne_true]
      exact p3.here M3 _ rfl
  | _ => exact p3.elim
theorem je_chain {op op' : CmpOp} {r r' : R2} {g g' : Val → Val → Hv → R Val} (ho : OpR X (compareOp op) r) (hs : OpS X.K cm W r g) (ho' : OpR X (compareOp op') r') (hs' : OpS X.K cm W r' g')
    (ha : JE X cm W a fa) (hb : JE X cm W b fb) (hc : JE X cm W c fc) (hm : lastMarks [op, op'] [b, c] = false := by with_unfolding_all rfl) : JE X cm W (.Compare a [op, op'] [b, c] pos) (sChain g g' fa fb fc) :=
  PE.imp (pe_chain ho ho' ha hb hc hm) fun σ H Q ⟨S, sv, e, M, rr, p⟩ => by
    subst e
    exact chain_post hs hs' M rr p
theorem jt_chain {op op' : CmpOp} {r r' : R2} {g g' : Val → Val → Hv → R Val} (ho : OpR X (compareOp op) r) (hs : OpS X.K cm W r g) (ho' : OpR X (compareOp op') r') (hs' : OpS X.K cm W r' g')
    (ha : JE X cm W a fa) (hb : JE X cm W b fb) (hc : JE X cm W c fc) (hm : lastMarks [op, op'] [b, c] = false := by with_unfolding_all rfl) : JT X cm W (.Compare a [op, op'] [b, c] pos) (sTest (sChain g g' fa fb fc)) :=
  PT.imp (pt_chain ho ho' ha hb hc hm) fun σ H Q ⟨S, sv, e, M, rr, p⟩ => by
    subst e
    have p : Post X.K cm W S ((sChain g g' fa fb fc sv S.h).bind fun v h1 => match v with | .bl b => R.ok b h1 | _ => .bad) fun b S' => Q b S'.H := p
    have p' := Post.bind (P' := fun v S' => ∀ w, VRel X.K S' v w → ∃ k, w = .bl k ∧ Q k S'.H) p fun v S1 e1 M1 p1 w rw' => by
      cases v with
      | bl k => exact ⟨k, rw', p1.here M1⟩
      | _ => exact p1.elim
    exact chain_post hs hs' M rr p'
/-! argument lists, displays -/
theorem ja_nil : JA X cm W [] sNil := PA.imp pa_nil fun σ H Q ⟨S, sv, e, M, r, p⟩ => by
  subst e
  exact p.here M _ VRels.nil
theorem ja_cons (ha : JE X cm W e fa) (hr : JA X cm W es fs) (hs : starEach (e :: es) X.env = (false, eval e X.env) :: starEach es X.env := by rfl) : JA X cm W (e :: es) (sCons fa fs) :=
  PA.imp (pa_cons ha hr hs) fun σ H Q ⟨S, sv, e, M, r, p⟩ => by
    subst e
    refine ⟨S, sv, rfl, M, r, Post.bind p fun x S1 e1 M1 p1 w1 r1 => ?_⟩
    refine ⟨S1, sv, rfl, M1, r.ext e1, Post.bind p1 fun xs S2 e2 M2 p2 ws r2 => ?_⟩
    exact p2.here M2 _ (VRels.cons (VRel.ext e2 x r1) r2)
theorem Post.ite {K : PySem.W.Frag} {S : Sn} {α : Type} {c : Prop} [Decidable c] {r : R α} {P : α → Sn → Prop} (h : Post K cm W S (if c then r else .bad) P) : c ∧ Post K cm W S r P := by
  by_cases k : c
  · rw [if_pos k] at h; exact ⟨k, h⟩
  · rw [if_neg k] at h; exact h.elim
/-- an immutable thing that was just laid -/
theorem Post.laid {K : PySem.W.Frag} {S : Sn} {α : Type} {v : α} {P : α → Sn → Prop} (h : Post K cm W S (.ok v S.h) P) (M : MR K cm S) {p : Addr} (hp : S.H p = none) (o : HO) : P v (S.lay p o) := h (S.lay p o) rfl (ext_lay M hp o) (mr_lay M hp o)
theorem vrel_tup {K : PySem.W.Frag} {S : Sn} {vs : List Val} {ws : List V} (M : MR K cm S) {p : Addr} (hp : S.H p = none) (r : VRels K S vs ws) : VRel K (S.lay p (.tup ws)) (.tup vs) (.ref p) :=
  ⟨p, ws, rfl, .inl ⟨upd_same, fun a => not_al M hp a⟩, VRels.ext (ext_lay M hp _) vs r⟩
theorem vrel_fl {K : PySem.W.Frag} {S : Sn} {vs : List Val} {ws : List V} (M : MR K cm S) {p : Addr} (hp : S.H p = none) (r : VRels K S vs ws) : VRel K (S.lay p (.lst ws)) (.fl vs) (.ref p) :=
  ⟨p, ws, rfl, ⟨upd_same, fun a => not_al M hp a⟩, VRels.ext (ext_lay M hp _) vs r⟩
theorem je_tup {x1} (h : JA X cm W es fs) : JE X cm W (.Tuple es x1 pos) (sTup fs) := PE.imp (pe_tup h) fun σ H Q ⟨S, sv, e, M, r, p⟩ => by
  subst e
  refine ⟨S, sv, rfl, M, r, Post.bind p fun vs S1 e1 M1 p1 ws r1 => ?_⟩
  obtain ⟨hl, p1⟩ := Post.ite p1
  exact ⟨by rw [← r1.length, sizeLine_eq]; exact hl, fun q hq => p1.laid M1 hq (.tup ws) _ (vrel_tup M1 hq r1)⟩
theorem je_lst (h : JA X cm W es fs) : JE X cm W (.List es pos) (sLst fs) := PE.imp (pe_lst h) fun σ H Q ⟨S, sv, e, M, r, p⟩ => by
  subst e
  refine ⟨S, sv, rfl, M, r, Post.bind p fun vs S1 e1 M1 p1 ws r1 => ?_⟩
  obtain ⟨hl, p1⟩ := Post.ite p1
  exact ⟨by rw [← r1.length, sizeLine_eq]; exact hl, fun q hq => p1.laid M1 hq (.lst ws) _ (vrel_fl M1 hq r1)⟩
/-- a new cell -/
theorem Post.newd {K : PySem.W.Frag} {S : Sn} {vs : List Val} {ws : List V} {P : Val → Sn → Prop} (h : Post K cm W S (.ok (.ref S.h.length) (S.h ++ [.lst vs])) P) (M : MR K cm S) {p : Addr} (hp : S.H p = none) (r : VRels K S vs ws) :
    P (.ref S.h.length) (S.new p (.lst ws) (.lst vs)) ∧ VRel K (S.new p (.lst ws) (.lst vs)) (.ref S.h.length) (.ref p) :=
  ⟨h _ rfl (ext_new M hp _ _) (mr_new M hp ⟨ws, upd_same, VRels.ext (ext_new M hp _ _) vs r⟩), ⟨p, rfl, by show (S.m ++ [p])[S.h.length]? = some p; rw [← M.len]; simp⟩⟩
theorem je_lstN (h : JA X cm W es fs) : JE X cm W (.List es pos) (sLstN fs) := PE.imp (pe_lst h) fun σ H Q ⟨S, sv, e, M, r, p⟩ => by
  subst e
  refine ⟨S, sv, rfl, M, r, Post.bind p fun vs S1 e1 M1 p1 ws r1 => ?_⟩
  obtain ⟨hl, p1⟩ := Post.ite p1
  refine ⟨by rw [← r1.length, sizeLine_eq]; exact hl, fun q hq => ?_⟩
  obtain ⟨z, y⟩ := p1.newd M1 hq r1
  exact z _ y
/-! tests -/
theorem jt_val (ha : JE X cm W a fa) (he : ∀ whole, isTrue a X.env whole = (do let v ← whole; standAt a.pos; holding [v] (truthy v))) : JT X cm W a (sTest fa) := PT.imp (pt_truth ha he) fun σ H Q ⟨S, sv, e, M, r, p⟩ => by
  subst e
  refine ⟨S, sv, rfl, M, r, Post.bind p fun v S1 e1 M1 p1 w r1 => ?_⟩
  cases v with
  | bl k => exact ⟨k, by subst r1; rfl, p1.here M1⟩
  | _ => exact p1.elim
theorem jw_and1 {ta : ST} (h : JT X cm W a ta) : JW X cm W (.BoolOp .And [a] pos) ta := pw_and1 h
theorem jw_or1 {ta : ST} (h : JT X cm W a ta) : JW X cm W (.BoolOp .Or [a] pos) ta := pw_or1 h
theorem jw_and {ta tb : ST} {rest : List Expr} (ha : JT X cm W a ta) (hb : JW X cm W (.BoolOp .And (b :: rest) pos) tb) : JW X cm W (.BoolOp .And (a :: b :: rest) pos) (tAnd' ta tb) := PW.imp (pw_and ha hb) fun σ H Q ⟨S, sv, e, M, r, p⟩ => by
  subst e
  refine ⟨S, sv, rfl, M, r, Post.bind p fun k S1 e1 M1 p1 => ?_⟩
  cases k with
  | true => rw [if_pos rfl] at p1 ⊢; exact ⟨S1, sv, rfl, M1, r.ext e1, p1⟩
  | false => rw [if_neg Bool.false_ne_true] at p1 ⊢; exact p1.here M1
theorem jw_or {ta tb : ST} {rest : List Expr} (ha : JT X cm W a ta) (hb : JW X cm W (.BoolOp .Or (b :: rest) pos) tb) : JW X cm W (.BoolOp .Or (a :: b :: rest) pos) (tOr' ta tb) := PW.imp (pw_or ha hb) fun σ H Q ⟨S, sv, e, M, r, p⟩ => by
  subst e
  refine ⟨S, sv, rfl, M, r, Post.bind p fun k S1 e1 M1 p1 => ?_⟩
  cases k with
  | true => rw [if_pos rfl] at p1 ⊢; exact p1.here M1
  | false => rw [if_neg Bool.false_ne_true] at p1 ⊢; exact ⟨S1, sv, rfl, M1, r.ext e1, p1⟩
theorem jt_w {t : ST} (h : JW X cm W a t) : JT X cm W a t := PW.pt h
theorem jt_not {ta : ST} (h : JT X cm W a ta) : JT X cm W (.UnaryOp .Not a pos) (tNot' ta) := PT.imp (pt_not h) fun σ H Q ⟨S, sv, e, M, r, p⟩ => by
  subst e
  exact ⟨S, sv, rfl, M, r, Post.bind p fun k S1 e1 M1 p1 => p1.here M1⟩
theorem je_one {op} (h : JE X cm W a fa) : JE X cm W (.BoolOp op [a] pos) fa := pe_one h
theorem je_and {rest : List Expr} (ha : JE X cm W a fa) (hb : JE X cm W (.BoolOp .And (b :: rest) pos) fb) : JE X cm W (.BoolOp .And (a :: b :: rest) pos) (sAnd fa fb) := PE.imp (pe_and ha hb) fun σ H Q ⟨S, sv, e, M, r, p⟩ => by
  subst e
  refine ⟨S, sv, rfl, M, r, Post.bind p fun v S1 e1 M1 p1 w r1 => ?_⟩
  cases v with
  | bl k =>
    refine ⟨k, r1, ?_⟩
    cases k with
    | true => rw [if_pos rfl]; exact ⟨S1, sv, rfl, M1, r.ext e1, p1⟩
    | false => rw [if_neg Bool.false_ne_true]; exact p1.here M1 _ rfl
  | _ => exact p1.elim
theorem je_or {rest : List Expr} (ha : JE X cm W a fa) (hb : JE X cm W (.BoolOp .Or (b :: rest) pos) fb) : JE X cm W (.BoolOp .Or (a :: b :: rest) pos) (sOr fa fb) := PE.imp (pe_or ha hb) fun σ H Q ⟨S, sv, e, M, r, p⟩ => by
  subst e
  refine ⟨S, sv, rfl, M, r, Post.bind p fun v S1 e1 M1 p1 w r1 => ?_⟩
  cases v with
  | bl k =>
    refine ⟨k, r1, ?_⟩
    cases k with
    | false => rw [if_neg Bool.false_ne_true]; exact ⟨S1, sv, rfl, M1, r.ext e1, p1⟩
    | true => rw [if_pos rfl]; exact p1.here M1 _ rfl
  | _ => exact p1.elim
theorem je_notV (ha : JE X cm W a fa) : JE X cm W (.UnaryOp .Not a pos) (sNotV fa) := PE.imp (pe_not ha) fun σ H Q ⟨S, sv, e, M, r, p⟩ => by
  subst e
  refine ⟨S, sv, rfl, M, r, Post.bind p fun v S1 e1 M1 p1 w r1 => ?_⟩
  cases v with
  | bl k => exact ⟨k, r1, p1.here M1 _ rfl⟩
  | _ => exact p1.elim
theorem je_if {tc : ST} (hc : JT X cm W c tc) (ha : JE X cm W a fa) (hb : JE X cm W b fb) : JE X cm W (.IfExp c a b pos) (sIf tc fa fb) := PE.imp (pe_ifExp hc ha hb) fun σ H Q ⟨S, sv, e, M, r, p⟩ => by
  subst e
  refine ⟨S, sv, rfl, M, r, Post.bind p fun k S1 e1 M1 p1 => ?_⟩
  cases k with
  | true => rw [if_pos rfl] at p1 ⊢; exact ⟨S1, sv, rfl, M1, r.ext e1, p1⟩
  | false => rw [if_neg Bool.false_ne_true] at p1 ⊢; exact ⟨S1, sv, rfl, M1, r.ext e1, p1⟩
/-! freezing -/
theorem frz_post {S : Sn} {v : Val} {w : V} {P : Val → Sn → Prop} (M : MR X.K cm S) (r : VRel X.K S v w) (p : Post X.K cm W S (frz v S.h) P) : ∃ u S', S'.H = S.H ∧ Ext S S' ∧ MR X.K cm S' ∧ VRel X.K S' u w ∧ frz v S.h = .ok u S'.h ∧ P u S' := by
  by_cases hr : ∃ i, v = .ref i
  · obtain ⟨i, rfl⟩ := hr
    obtain ⟨q, rfl, hm⟩ := r
    unfold frz at p
    cases hc : S.h[i]? with
    | none => simp only [hc] at p; exact p.elim
    | some cc =>
      cases cc with
      | dead => simp only [hc] at p; exact p.elim
      | dK _ _ => simp only [hc] at p; exact p.elim
      | dT _ _ => simp only [hc] at p; exact p.elim
      | ins _ _ _ => simp only [hc] at p; exact p.elim
      | lst vs =>
        simp only [hc] at p
        obtain ⟨ws, h1, h2⟩ := M.obj i _ q hc hm
        exact ⟨.fl vs, S.kill i, rfl, ext_kill, mr_kill M i, ⟨q, ws, rfl, ⟨h1, kill_not_al M hm ⟨_, hc, fun z => nomatch z⟩⟩, VRels.ext ext_kill vs h2⟩, by unfold frz; simp only [hc]; rfl, p (S.kill i) rfl ext_kill (mr_kill M i)⟩
  · have e : frz v S.h = .ok v S.h := by
      cases v with
      | ref i => exact (hr ⟨i, rfl⟩).elim
      | _ => rfl
    rw [e] at p
    exact ⟨v, S, rfl, Ext.refl S, M, r, e, p.here M⟩
theorem je_frz (h : JE X cm W a fa) : JE X cm W a (sFrz fa) := PE.imp h fun σ H Q ⟨S, sv, e, M, r, p⟩ => by
  subst e
  refine ⟨S, sv, rfl, M, r, Post.bind p fun v S1 e1 M1 p1 w r1 => ?_⟩
  obtain ⟨u, S2, eH, e2, M2, r2, _, p2⟩ := frz_post M1 r1 p1
  rw [← eH]
  exact p2 w r2
end
end Sx

set_option Elab.async false
set_option linter.all false
set_option maxRecDepth 100000
set_option maxHeartbeats 2000000
/-! SxStmt: statements, loops, comprehensions, defs. -/
namespace Sx
open PySem PySem.Spec L2
open PyProof.Rows hiding St
section
variable {X : Cx} {cm : Nat → Addr} {W : XW} {pos : Pos} {e a b c : Expr} {es : List Expr} {fa fb fc : SE} {fs : SA} {st : Stmt} {sts : List Stmt} {f g : SS}
theorem FlP.nx {K : PySem.W.Frag} {D : Ends} {sv : Env} {S : Sn} (h : FlP K D (.nx sv) S) {σ : L2.St} (r : SRel K S sv σ) : D.nx σ S.H := h σ r
theorem jb_nil : JB X cm W [] sSkip := PSs.imp pss_nil fun D σ H ⟨S, sv, e, M, r, p⟩ => by
  subst e
  exact p.here M σ r
theorem seq_post {D : Ends} {S : Sn} {r0 : R Fl} {k : Env → Hv → R Fl} (p : Post X.K cm W S (r0.bind fun f h1 => match f with | .nx s => k s h1 | f => .ok f h1) (FlP X.K D)) {nx' : L2.St → Hp → Prop}
    (hn : ∀ s S1 σ, Ext S S1 → MR X.K cm S1 → SRel X.K S1 s σ → Post X.K cm W S1 (k s S1.h) (FlP X.K D) → nx' σ S1.H) : Post X.K cm W S r0 (FlP X.K { D with nx := nx' }) :=
  Post.bind p fun fl S1 e1 M1 p1 => by
    cases fl with
    | nx s => exact fun σ r1 => hn s S1 σ e1 M1 r1 p1
    | rt v => exact p1.here M1
    | bk s => exact p1.here M1
    | ct s => exact p1.here M1
theorem jb_cons (h1 : JS X cm W st f) (h2 : JB X cm W sts g) : JB X cm W (st :: sts) (sSeq f g) := PSs.imp (pss_cons h1 h2) fun D σ H ⟨S, sv, e, M, r, p⟩ => by
  subst e
  exact ⟨S, sv, rfl, M, r, seq_post (k := g) p fun s S1 σ1 e1 M1 r1 p1 => ⟨S1, s, rfl, M1, r1, p1⟩⟩
theorem jb_one (h1 : JS X cm W st f) : JB X cm W [st] f := pss_one h1
/-- a ghost step ahead of a block -/
theorem jb_frz {i : Nat} (h : JB X cm W sts f) : JB X cm W sts (sSeq (sFrzV i) f) := PSs.imp h fun D σ H ⟨S, sv, e, M, r, p⟩ => by
  subst e
  unfold sSeq sFrzV sVar at p
  cases q : sv[i]? with
  | none => simp only [q] at p; exact p.elim
  | some o =>
    cases o with
    | none => simp only [q] at p; exact p.elim
    | some v =>
      simp only [q, bind_ok] at p
      obtain ⟨w, h1, h2⟩ := r.2 i v q
      have p' : Post X.K cm W S (frz v S.h) fun u S1 => Post X.K cm W S1 (f (sv.set i (some u)) S1.h) (FlP X.K D) := by
        generalize hz : frz v S.h = z at p
        cases z with
        | ok u h' => exact fun S' e1 e2 M1 => Post.step e2 (by rw [e1]; exact p)
        | exc c vs h' => exact p
        | bad => exact p
      obtain ⟨u, S2, eH, e2, M2, r2, _, p2⟩ := frz_post M h2 p'
      refine ⟨S2, sv.set i (some u), eH, M2, ?_, p2⟩
      have r3 := (r.ext e2).set r2 i
      have es : σ.set i (some w) = σ := by
        apply List.ext_getElem?
        intro j
        by_cases ij : i = j
        · subst ij
          have hl : i < σ.length := (List.getElem?_eq_some_iff.mp h1).1
          rw [List.getElem?_set_self hl, h1]
        · rw [List.getElem?_set_ne ij]
      rw [es] at r3
      exact r3
theorem js_pass : JS X cm W (.Pass pos) sSkip := PS.imp ps_pass fun D σ H ⟨S, sv, e, M, r, p⟩ => by
  subst e
  exact p.here M σ r
theorem js_break : JS X cm W (.Break pos) sBrk := PS.imp ps_break fun D σ H ⟨S, sv, e, M, r, p⟩ => by
  subst e
  exact p.here M σ r
theorem js_continue : JS X cm W (.Continue pos) sCnt := PS.imp ps_continue fun D σ H ⟨S, sv, e, M, r, p⟩ => by
  subst e
  exact p.here M σ r
theorem js_doc {x j pos'} : JS X cm W (.Expr (.Constant (.str x) j pos) pos') sSkip := PS.imp ps_doc fun D σ H ⟨S, sv, e, M, r, p⟩ => by
  subst e
  exact p.here M σ r
theorem js_expr (he : JE X cm W e fa) (hs : swapsWith e none pos.line X.env = pure false := by rfl) : JS X cm W (.Expr e pos) (sExpr fa) := PS.imp (ps_expr he hs) fun D σ H ⟨S, sv, e, M, r, p⟩ => by
  subst e
  exact ⟨S, sv, rfl, M, r, Post.bind p fun v S1 e1 M1 p1 w r1 => p1.here M1 σ (r.ext e1)⟩
theorem js_ret (he : JE X cm W e fa) : JS X cm W (.Return (some e) pos) (sRet fa) := PS.imp (ps_ret he) fun D σ H ⟨S, sv, e, M, r, p⟩ => by
  subst e
  exact ⟨S, sv, rfl, M, r, Post.bind p fun v S1 e1 M1 p1 w r1 => p1.here M1 w r1⟩
theorem js_retN : JS X cm W (.Return none pos) sRetN := PS.imp ps_retN fun D σ H ⟨S, sv, e, M, r, p⟩ => by
  subst e
  exact p.here M .non rfl
theorem js_if {tc : ST} {as bs : List Stmt} (hc : JT X cm W c tc) (ha : JB X cm W as f) (hb : JB X cm W bs g) : JS X cm W (.If c as bs pos) (sIte tc f g) := PS.imp (ps_if hc ha hb) fun D σ H ⟨S, sv, e, M, r, p⟩ => by
  subst e
  refine ⟨S, sv, rfl, M, r, Post.bind p fun k S1 e1 M1 p1 => ?_⟩
  cases k with
  | true => rw [if_pos rfl] at p1 ⊢; exact ⟨S1, sv, rfl, M1, r.ext e1, p1⟩
  | false => rw [if_neg Bool.false_ne_true] at p1 ⊢; exact ⟨S1, sv, rfl, M1, r.ext e1, p1⟩
theorem js_set {i : Nat} {x : Str} {pos' : Pos} (hN : X.N.Nodup) (hi : X.N[i]? = some x) (hx : Loc X.env.scope x) (he : JE X cm W e fa) (hs : swapsWith e (some (.Name x pos')) pos.line X.env = pure false := by rfl) (hf : X.fn x = true ∨ X.env.scope.names.lookup x = some .local := by first | exact .inl rfl | exact .inr rfl | assumption) :
    JS X cm W (.Assign [.Name x pos'] e pos) (sSet i fa) := PS.imp (ps_set hN hi hx he hs hf) fun D σ H ⟨S, sv, e, M, r, p⟩ => by
  subst e
  exact ⟨S, sv, rfl, M, r, Post.bind p fun v S1 e1 M1 p1 w r1 => p1.here M1 _ ((r.ext e1).set r1 i)⟩
/-! ### targets -/
/-- a target's reading; own: the names it stores -/
def tGw (K : PySem.W.Frag) (cm : Nat → Addr) (W : XW) (own : List Nat) (f : SG) : TG := fun v σ H Q => ∃ S sv u, S.H = H ∧ MR K cm S ∧ SRel K S sv σ ∧ VRel K S u v ∧ Post K cm W S (f u sv S.h) fun sv' S' => ∀ σ', SRel K S' sv' σ' → wipe σ' own = wipe σ own → Q σ' S'.H
theorem wipe_get {i : Nat} {σ : L2.St} : ∀ {vs : List Nat}, (wipe σ vs)[i]? = if i ∈ vs then (σ[i]?).map fun _ => none else σ[i]?
  | [] => by simp [wipe]
  | v :: vs => by
    unfold wipe
    by_cases e : v = i
    · subst e
      have hl := wipe_length σ vs
      by_cases hv : v < σ.length
      · rw [List.getElem?_set_self (by rw [hl]; exact hv)]
        simp [List.getElem?_eq_getElem hv]
      · rw [List.getElem?_eq_none (by simp [hl]; omega)]
        simp [List.getElem?_eq_none (Nat.le_of_not_lt hv)]
    · rw [List.getElem?_set_ne e, wipe_get (vs := vs)]
      have : (i ∈ v :: vs) ↔ i ∈ vs := by
        rw [List.mem_cons]
        exact ⟨fun h => h.resolve_left (fun z => e z.symm), .inr⟩
      simp only [this]
theorem wipe_set {σ : L2.St} {i : Nat} {o : Option V} {own : List Nat} (h : i ∈ own) : wipe (σ.set i o) own = wipe σ own := by
  apply List.ext_getElem?
  intro j
  rw [wipe_get, wipe_get]
  by_cases e : j ∈ own
  · rw [if_pos e, if_pos e]
    by_cases ij : i = j
    · subst ij
      by_cases hl : i < σ.length
      · rw [List.getElem?_set_self hl, List.getElem?_eq_getElem hl]; rfl
      · rw [List.getElem?_eq_none (by simp; omega), List.getElem?_eq_none (by omega)]
    · rw [List.getElem?_set_ne ij]
  · rw [if_neg e, if_neg e, List.getElem?_set_ne (fun z => e (by rw [← z]; exact h))]
abbrev JG (X : Cx) (cm : Nat → Addr) (W : XW) (own : List Nat) (e : Expr) (f : SG) : Prop := PG X e (tGw X.K cm W own f)
theorem jg_name {i : Nat} {x : Str} {own : List Nat} (ho : i ∈ own := by decide) (hN : X.N.Nodup) (hi : X.N[i]? = some x) (hx : Loc X.env.scope x) (hf : X.fn x = true ∨ X.env.scope.names.lookup x = some .local := by first | exact .inl rfl | exact .inr rfl | assumption) :
    JG X cm W own (.Name x pos) (gNm i) := PG.imp (pg_name hN hi hx hf) fun v σ H Q ⟨S, sv, u, e, M, r, ru, p⟩ => by
  subst e
  exact p.here M _ (r.set ru i) (wipe_set ho)
/-- names of a tuple target -/
inductive PNs (X : Cx) (own : List Nat) : List Expr → List Nat → Prop
  | nil : PNs X own [] []
  | cons {x : Str} {i : Nat} {pos : Pos} {es : List Expr} {is : List Nat} (hi : X.N[i]? = some x) (hx : Loc X.env.scope x) (hf : X.fn x = true ∨ X.env.scope.names.lookup x = some .local) (ho : i ∈ own)
      (hs : (assignEach (.Name x pos :: es) X.env).map (·.2) = assign (.Name x pos) X.env :: (assignEach es X.env).map (·.2)) (r : PNs X own es is) : PNs X own (.Name x pos :: es) (i :: is)
def gNames : List Nat → TGs
  | [] => gNil
  | i :: is => gCons (gName i) (gNames is)
theorem PNs.pgs {own : List Nat} (hN : X.N.Nodup) : ∀ {es : List Expr} {is : List Nat}, PNs X own es is → PGs X es (gNames is)
  | _, _, .nil => pgs_nil
  | _, _, .cons hi hx hf ho hs r => pgs_cons (pg_name hN hi hx hf) (PNs.pgs hN r) hs
theorem PNs.own {own : List Nat} : ∀ {es : List Expr} {is : List Nat}, PNs X own es is → ∀ i ∈ is, i ∈ own
  | _, _, .nil, _, h => by simp at h
  | _, _, .cons _ _ _ ho _ r, i, h => by
    rcases List.mem_cons.mp h with z | z
    · subst z; exact ho
    · exact r.own i z
theorem names_post {K : PySem.W.Frag} {S : Sn} {own : List Nat} {Q : L2.St → Hp → Prop} : ∀ {is : List Nat} {vs : List Val} {ws : List V} {sv : Env} {σ : L2.St}, vs.length = is.length → (∀ i ∈ is, i ∈ own) → VRels K S vs ws → SRel K S sv σ →
    (∀ σ', SRel K S ((is.zip vs).foldl (fun s p => s.set p.1 (some p.2)) sv) σ' → wipe σ' own = wipe σ own → Q σ' S.H) → gNames is ws σ S.H Q
  | [], vs, ws, sv, σ, hl, _, r, rr, q => by
    have : vs = [] := by simpa using hl
    subst this
    cases r
    exact ⟨rfl, q σ rr rfl⟩
  | i :: is, [], _, _, _, hl, _, _, _, _ => by simp at hl
  | i :: is, v :: vs, _, sv, σ, hl, ho, ⟨w, r', e, h1, h2⟩, rr, q => by
    subst e
    refine ⟨w, r', rfl, names_post (by simpa using hl) (fun j hj => ho j (List.mem_cons_of_mem _ hj)) h2 (rr.set h1 i) fun σ' r2 e2 => q σ' r2 (e2.trans (wipe_set (ho i List.mem_cons_self)))⟩
theorem jg_tup {own is : List Nat} {k : Nat} (hc : X.calm = true) (hN : X.N.Nodup) (h : PNs X own es is) (hn : (assignEach es X.env).length = is.length := by rfl) (hst : (assignEach es X.env).findIdx? (·.1) = none := by rfl) :
    JG X cm W own (.Tuple es k pos) (gTp is) := PG.imp (pg_tup hc (h.pgs hN) hn hst) fun v σ H Q ⟨S, sv, u, e, M, r, ru, p⟩ => by
  subst e
  cases u with
  | tup vs =>
    obtain ⟨q, ws, rfl, hq, hr⟩ := ru
    obtain ⟨hl, p⟩ := Post.ite p
    exact ⟨q, ws, rfl, hq.sq, by rw [← hr.length]; exact hl, names_post hl h.own hr r (p.here M)⟩
  | _ => exact p.elim
theorem js_asg {own : List Nat} {tg : Expr} {gg : SG} (he : JE X cm W e fa) (hg : JG X cm W own tg gg) (hs : swapsWithSole [tg] e pos.line X.env = pure false := by rfl) (hw : swappedStores [tg] e X.env = pure none := by rfl)
    (h1 : (assignEach [tg] X.env).map (·.2) = [assign tg X.env] := by rfl) : JS X cm W (.Assign [tg] e pos) (sAsg fa gg) := PS.imp (ps_asg he hg hs hw h1) fun D σ H ⟨S, sv, e, M, r, p⟩ => by
  subst e
  refine ⟨S, sv, rfl, M, r, Post.bind p fun v S1 e1 M1 p1 w r1 => ?_⟩
  exact ⟨S1, sv, v, rfl, M1, r.ext e1, r1, Post.bind p1 fun s S2 e2 M2 p2 σ' r2 _ => p2.here M2 σ' r2⟩
/-! ### loops -/
theorem js_while {tc : ST} {body : List Stmt} (n : Nat) (hp : PassesOwn (model X.prog X.w) X.A X.env X.xe) (hc : JT X cm W c tc) (hb : JB X cm W body f) : JS X cm W (.While c body [] pos) (sWhile tc f n) := PS.imp (ps_while hp hc hb) fun D σ H ⟨S, sv, e, M, r, p⟩ => by
  subst e
  refine ⟨fun m σ H => ∃ S sv, S.H = H ∧ MR X.K cm S ∧ SRel X.K S sv σ ∧ Post X.K cm W S (sWhile tc f m sv S.h) (FlP X.K D), ⟨n, S, sv, rfl, M, r, p⟩, ?_⟩
  rintro m σ _ ⟨S, sv, rfl, M, r, p⟩
  cases m with
  | zero => exact p.elim
  | succ m =>
    refine ⟨S, sv, rfl, M, r, Post.bind p fun k S1 e1 M1 p1 => ?_⟩
    cases k with
    | false => rw [if_neg Bool.false_ne_true] at p1 ⊢; exact p1.here M1 σ (r.ext e1)
    | true =>
      rw [if_pos rfl] at p1 ⊢
      refine ⟨fun σ' H' => ∃ S sv, S.H = H' ∧ MR X.K cm S ∧ SRel X.K S sv σ' ∧ Post X.K cm W S (sWhile tc f m sv S.h) (FlP X.K D), fun σ' H' h => ⟨m, Nat.lt_succ_self m, h⟩, S1, sv, rfl, M1, r.ext e1, Post.bind p1 fun fl S2 e2 M2 p2 => ?_⟩
      cases fl with
      | nx s => exact fun σ2 r2 => ⟨S2, s, rfl, M2, r2, p2⟩
      | ct s => exact fun σ2 r2 => ⟨S2, s, rfl, M2, r2, p2⟩
      | bk s => exact fun σ2 r2 => p2.here M2 σ2 r2
      | rt v => exact p2.here M2
/-- what a walk yields: the items -/
def Yld (K : PySem.W.Frag) (cm : Nat → Addr) (S0 : Sn) (J : It) (xs : List Val) : Prop := ∀ S, Lift S0 S → MR K cm S → ∀ i, (i = xs.length → J.stop i S.H) ∧ ∀ v, xs[i]? = some v → J.go i S.H ∧ ∀ x H', J.yld i S.H x H' → ∃ S2, S2.H = H' ∧ S2.h = S.h ∧ Ext S S2 ∧ MR K cm S2 ∧ VRel K S2 v x
theorem Yld.ext {K : PySem.W.Frag} {S0 S1 : Sn} {J : It} {xs : List Val} (e : Ext S0 S1) (h : Yld K cm S0 J xs) : Yld K cm S1 J xs := fun S e1 M => h S (e.lift.trans e1) M
def tI (K : PySem.W.Frag) (cm : Nat → Addr) (W : XW) (f : SI) : TI := fun σ H R => ∃ S sv, S.H = H ∧ MR K cm S ∧ SRel K S sv σ ∧ Post K cm W S (f sv S.h) fun xs S' => ∀ J, Yld K cm S' J xs → R J S'.H
theorem PI.imp {X : Cx} {tg e : Expr} {t t' : TI} (h : PI X tg e t) (k : ∀ σ H Q, t' σ H Q → t σ H Q) : PI X tg e t' := ⟨fun pins s σ H Q I q => h.run pins s σ H Q I (k _ _ _ q)⟩
abbrev JI (X : Cx) (cm : Nat → Addr) (W : XW) (tg e : Expr) (f : SI) : Prop := PI X tg e (tI X.K cm W f)
theorem js_for {own : List Nat} {tg iter : Expr} {body : List Stmt} {it : SI} {gg : SG} (hp : PassesOwn (model X.prog X.w) X.A X.env X.xe) (hc : X.calm = true) (hi : JI X cm W tg iter it) (hg : JG X cm W own tg gg) (hb : JB X cm W body f)
    (hs : ∀ x, foldedSetIterable iter X.env x = pure x := by intro _; rfl) : JS X cm W (.For tg iter body [] pos) (sFor it gg f) := PS.imp (ps_for hp hc hi hg hb hs) fun D σ H ⟨S, sv, e, M, r, p⟩ => by
  subst e
  refine ⟨S, sv, rfl, M, r, Post.bind p fun xs S0 e0 M0 p0 J hJ => ?_⟩
  refine ⟨fun i m σ H => m = xs.length - i ∧ i ≤ xs.length ∧ ∃ S sv, S.H = H ∧ Ext S0 S ∧ MR X.K cm S ∧ SRel X.K S sv σ ∧ Post X.K cm W S (sForL gg f (xs.drop i) sv S.h) (FlP X.K D), ⟨xs.length, by simp, Nat.zero_le _, S0, sv, rfl, Ext.refl _, M0, r.ext e0, by simpa using p0⟩, ?_⟩
  rintro i m σ _ ⟨rfl, hi, S, sv, rfl, e, M, r, p⟩
  obtain ⟨y1, y2⟩ := hJ S e.lift M i
  by_cases hlt : i < xs.length
  · obtain ⟨go, y3⟩ := y2 xs[i] (List.getElem?_eq_getElem hlt)
    refine .inr ⟨go, fun σ' H' => ∃ S sv, S.H = H' ∧ Ext S0 S ∧ MR X.K cm S ∧ SRel X.K S sv σ' ∧ Post X.K cm W S (sForL gg f (xs.drop (i + 1)) sv S.h) (FlP X.K D), fun σ' H' h => ⟨xs.length - (i + 1), by omega, rfl, hlt, h⟩, fun x H' hy => ?_⟩
    obtain ⟨S2, rfl, eh, e2, M2, r2⟩ := y3 x H' hy
    rw [List.drop_eq_getElem_cons hlt, ← eh] at p
    refine ⟨S2, sv, xs[i], rfl, M2, r.ext e2, r2, Post.bind (Post.step e2 p) fun s1 S3 e3 M3 p3 σ3 r3 _ => ?_⟩
    refine ⟨S3, s1, rfl, M3, r3, Post.bind p3 fun fl S4 e4 M4 p4 => ?_⟩
    cases fl with
    | nx s => exact fun σ4 r4 => ⟨S4, s, rfl, e.trans (e2.trans (e3.trans e4)), M4, r4, p4⟩
    | ct s => exact fun σ4 r4 => ⟨S4, s, rfl, e.trans (e2.trans (e3.trans e4)), M4, r4, p4⟩
    | bk s => exact fun σ4 r4 => p4.here M4 σ4 r4
    | rt v => exact p4.here M4
  · have ei : i = xs.length := by omega
    refine .inl ⟨y1 ei, ?_⟩
    rw [List.drop_eq_nil_of_le (by omega)] at p
    exact p.here M σ r
/-! ### what is walked -/
def iVal (a : SE) : SI := fun sv h => (a sv h).bind fun v h1 => match v with
  | .tup vs => .ok vs h1
  | .fl vs => .ok vs h1
  | .kl vs => .ok vs h1
  | _ => .bad
def iList' (a : SE) : SI := fun sv h => (a sv h).bind fun v h1 => match v with
  | .fl vs => .ok vs h1
  | .kl vs => .ok vs h1
  | _ => .bad
def iTup' (a : SE) : SI := fun sv h => (a sv h).bind fun v h1 => match v with
  | .tup vs => .ok vs h1
  | _ => .bad
theorem yld_list {K : PySem.W.Frag} {S0 : Sn} {p : Addr} {xs : List Val} {ws : List V} (r : VRels K S0 xs ws) (h : ∀ S, Lift S0 S → SqL K S.H p ws) : Yld K cm S0 (Itl K p) xs := fun S e M i => by
  have q := h S e
  have r' := VRels.lift e xs r
  refine ⟨fun ei => ⟨ws, q, by rw [ei, r'.length]; exact Nat.le_refl _⟩, fun v hv => ?_⟩
  obtain ⟨w, hw, rw'⟩ := r'.get hv
  refine ⟨⟨ws, w, q, hw⟩, fun x H' hy => ?_⟩
  obtain ⟨rfl, hx⟩ := hy
  have ew := hx ws q
  rw [hw] at ew; cases ew
  exact ⟨S, rfl, rfl, Ext.refl S, M, rw'⟩
theorem yld_tup {K : PySem.W.Frag} {S0 : Sn} {p : Addr} {xs : List Val} {ws : List V} (r : VRels K S0 xs ws) (h : ∀ S, Lift S0 S → SqT K S.H p ws) : Yld K cm S0 (Itt K p) xs := fun S e M i => by
  have q := h S e
  have r' := VRels.lift e xs r
  refine ⟨fun ei => ⟨ws, q, by rw [ei, r'.length]; exact Nat.le_refl _⟩, fun v hv => ?_⟩
  obtain ⟨w, hw, rw'⟩ := r'.get hv
  refine ⟨⟨ws, w, q, hw⟩, fun x H' hy => ?_⟩
  obtain ⟨rfl, hx⟩ := hy
  have ew := hx ws q
  rw [hw] at ew; cases ew
  exact ⟨S, rfl, rfl, Ext.refl S, M, rw'⟩
theorem ji_list {tg : Expr} (ha : JE X cm W a fa) : JI X cm W tg a (iList' fa) := PI.imp (pi_list ha) fun σ H Q ⟨S, sv, e, M, r, p⟩ => by
  subst e
  refine ⟨S, sv, rfl, M, r, Post.bind p fun v S1 e1 M1 p1 w r1 => ?_⟩
  cases v with
  | fl vs =>
    obtain ⟨q, ws, rfl, hq, hr⟩ := r1
    exact ⟨q, rfl, ⟨ws, hq.sq⟩, p1.here M1 _ (yld_list hr fun S' e' => (hq.lift e').sq)⟩
  | kl vs =>
    obtain ⟨q, ws, rfl, hq, hr⟩ := r1
    exact ⟨q, rfl, ⟨ws, hq.sq⟩, p1.here M1 _ (yld_list hr fun S' e' => (hq.lift e').sq)⟩
  | _ => exact p1.elim
theorem ji_tup {tg : Expr} (ha : JE X cm W a fa) : JI X cm W tg a (iTup' fa) := PI.imp (pi_tup ha) fun σ H Q ⟨S, sv, e, M, r, p⟩ => by
  subst e
  refine ⟨S, sv, rfl, M, r, Post.bind p fun v S1 e1 M1 p1 w r1 => ?_⟩
  cases v with
  | tup vs =>
    obtain ⟨q, ws, rfl, hq, hr⟩ := r1
    exact ⟨q, rfl, ⟨ws, hq.sq⟩, p1.here M1 _ (yld_tup hr fun S' e' => (hq.lift e').sq)⟩
  | _ => exact p1.elim
def rangeV (lo : Int) (n : Nat) : List Val := (List.range n).map fun (i : Nat) => Val.int (lo + (i : Int))
/-- range(j) -/
def iRange1 (a : SE) : SI := fun sv h => (a sv h).bind fun v h1 => match v with
  | .int j => if -4611686018427387904 ≤ j ∧ j < 4611686018427387904 then .ok (rangeV 0 j.toNat) h1 else .bad
  | _ => .bad
/-- range(i, j) -/
def iRange2 (a b : SE) : SI := fun sv h => (a sv h).bind fun v h1 => (b sv h1).bind fun u h2 => match v, u with
  | .int i, .int j => if (-4611686018427387904 ≤ i ∧ i < 4611686018427387904) ∧ -4611686018427387904 ≤ j ∧ j < 4611686018427387904 then .ok (rangeV i (j - i).toNat) h2 else .bad
  | _, _ => .bad
theorem yld_range {K : PySem.W.Frag} {S0 : Sn} (lo : Int) (n : Nat) : Yld K cm S0 (Itr lo n) (rangeV lo n) := fun S e M i => by
  unfold rangeV
  refine ⟨fun ei => by simp at ei; show n ≤ i; omega, fun v hv => ?_⟩
  rw [List.getElem?_map] at hv
  by_cases hi : i < n
  · rw [List.getElem?_eq_getElem (by simpa using hi)] at hv
    simp at hv
    subst hv
    refine ⟨hi, fun x H' hy => ?_⟩
    obtain ⟨rfl, rfl⟩ := hy
    exact ⟨S, rfl, rfl, Ext.refl S, M, rfl⟩
  · rw [List.getElem?_eq_none (by simpa using hi)] at hv
    cases hv
theorem ji_range1 {tg : Expr} {p : Pos} (hg : Gl X "range") (hm : X.mg "range" = none) (ha : JE X cm W a fa) (hs : starEach [a] X.env = [(false, eval a X.env)] := by rfl) : JI X cm W tg (.Call (.Name "range" p) [a] [] pos) (iRange1 fa) :=
  PI.imp (pi_range1 hg hm (pa_cons ha pa_nil (by rw [hs]; rfl)) hs) fun σ H Q ⟨S, sv, e, M, r, p⟩ => by
    subst e
    refine ⟨S, sv, rfl, M, r, Post.bind p fun v S1 e1 M1 p1 w r1 => ?_⟩
    cases v with
    | int j =>
      obtain rfl := r1
      obtain ⟨hl, p1⟩ := Post.ite p1
      exact ⟨j, rfl, by have := hl.1; omega, by have := hl.2; omega, p1.here M1 _ (yld_range _ _)⟩
    | _ => exact p1.elim
theorem ji_range2 {tg : Expr} {p : Pos} (hg : Gl X "range") (hm : X.mg "range" = none) (ha : JE X cm W a fa) (hb : JE X cm W b fb) (hs : starEach [a, b] X.env = [(false, eval a X.env), (false, eval b X.env)] := by rfl) (hs2 : starEach [b] X.env = [(false, eval b X.env)] := by rfl) :
    JI X cm W tg (.Call (.Name "range" p) [a, b] [] pos) (iRange2 fa fb) :=
  PI.imp (pi_range2 hg hm (pa_cons ha (pa_cons hb pa_nil (by rw [hs2]; rfl)) (by rw [hs, hs2])) hs hs2) fun σ H Q ⟨S, sv, e, M, r, p⟩ => by
    subst e
    refine ⟨S, sv, rfl, M, r, Post.bind p fun v S1 e1 M1 p1 w r1 => ?_⟩
    refine ⟨S1, sv, rfl, M1, r.ext e1, Post.bind p1 fun u S2 e2 M2 p2 w2 r2 => ?_⟩
    cases v with
    | int i =>
      cases u with
      | int j =>
        obtain rfl := r1
        obtain rfl := r2
        obtain ⟨hl, p2⟩ := Post.ite p2
        exact ⟨i, j, rfl, ⟨by have := hl.1.1; omega, by have := hl.1.2; omega, by have := hl.2.1; omega, by have := hl.2.2; omega⟩, p2.here M2 _ (yld_range _ _)⟩
      | _ => exact p2.elim
    | _ => exact p2.elim
end
end Sx

set_option Elab.async false
set_option linter.all false
set_option maxRecDepth 100000
set_option maxHeartbeats 2000000
/-! SxFn: comprehensions; a def's promise from its semantics, calls. -/
namespace Sx
open PySem PySem.Spec L2
open PyProof.Rows hiding St
/-! ### comprehensions -/
/-- no exception within -/
def W0 : XW := fun _ _ _ => False
section
variable {X : Cx} {cm : Nat → Addr} {W W' : XW} {pos : Pos} {fa fb fc : SE}
theorem wipeE_length (sv : Env) : ∀ vs : List Nat, (wipeE sv vs).length = sv.length
  | [] => rfl
  | v :: vs => by unfold wipeE; rw [List.length_set, wipeE_length sv vs]
theorem wipeE_some {sv : Env} {i : Nat} {x : Val} : ∀ {vs : List Nat}, (wipeE sv vs)[i]? = some (some x) → sv[i]? = some (some x) ∧ i ∉ vs
  | [], h => ⟨h, by simp⟩
  | v :: vs, h => by
    unfold wipeE at h
    by_cases hi : v = i
    · subst hi
      by_cases hl : v < (wipeE sv vs).length
      · rw [List.getElem?_set_self hl] at h; cases h
      · rw [List.getElem?_eq_none (by rw [List.length_set]; omega)] at h; cases h
    · rw [List.getElem?_set_ne hi] at h
      obtain ⟨h1, h2⟩ := wipeE_some h
      exact ⟨h1, fun z => (List.mem_cons.mp z).elim (fun e => hi e.symm) h2⟩
theorem SRel.wiped {K : PySem.W.Frag} {S : Sn} {sv : Env} {σ : L2.St} (r : SRel K S sv σ) (vs : List Nat) : SRel K S (wipeE sv vs) (wipe σ vs) := by
  refine ⟨by rw [wipeE_length, wipe_length, r.1], fun i v h => ?_⟩
  obtain ⟨h1, h2⟩ := wipeE_some h
  obtain ⟨w, h3, h4⟩ := r.2 i v h1
  exact ⟨w, by rw [wipe_get, if_neg h2]; exact h3, h4⟩
/-- a list in the making, its address held back -/
theorem ext_of_res {K : PySem.W.Frag} {S S' : Sn} (M : MR K cm S) {p : Addr} {o o' : HO} (hp : S.H p = none) (e : Ext (S.res p o) S') : Ext S ⟨S'.m, S'.h, upd S'.H p o', S.z⟩ := by
  refine ⟨rfl, fun i q h => e.pre i q h, fun q u h k => ?_, fun q hq => ?_⟩
  · have nq : q ≠ p := ne_of_none h hp
    have k' : ¬ Al (S.res p o) q := by
      rintro (a | a)
      · rcases List.mem_cons.mp a with z | z
        · exact nq z
        · exact k (.inl z)
      · exact k (.inr a)
    obtain ⟨h1, h2⟩ := e.keep q u (by show upd S.H p o q = _; rw [upd_ne nq]; exact h) k'
    refine ⟨by show upd S'.H p o' q = _; rw [upd_ne nq]; exact h1, ?_⟩
    rintro (a | a)
    · exact k (.inl a)
    · exact h2 (.inr a)
  · have nq : q ≠ p := fun z => M.zn q hq (by rw [z]; exact hp)
    show upd S'.H p o' q = _
    rw [upd_ne nq, e.rz q (List.mem_cons_of_mem _ hq)]
    show upd S.H p o q = _
    rw [upd_ne nq]
theorem ext_res {K : PySem.W.Frag} {S : Sn} (M : MR K cm S) {p : Addr} {o : HO} (hp : S.H p = none) : ∀ q u, S.H q = some u → ¬ Al S q → (S.res p o).H q = some u ∧ ¬ Al (S.res p o) q := fun q u h k => by
  have nq : q ≠ p := ne_of_none h hp
  refine ⟨by show upd S.H p o q = _; rw [upd_ne nq]; exact h, ?_⟩
  rintro (a | a)
  · rcases List.mem_cons.mp a with z | z
    · exact nq z
    · exact k (.inl z)
  · exact k (.inr a)
theorem lift_res {K : PySem.W.Frag} {S : Sn} (M : MR K cm S) {p : Addr} {o : HO} (hp : S.H p = none) : Lift S (S.res p o) := ⟨fun _ _ h => h, ext_res M hp⟩
theorem mr_res {K : PySem.W.Frag} {S : Sn} (M : MR K cm S) {p : Addr} {o : HO} (hp : S.H p = none) : MR K cm (S.res p o) := by
  refine ⟨M.len, M.inj, fun i c q h1 h2 => (M.obj i c q h1 h2).lift (lift_res M hp) fun u hu => ?_, fun q hq => ?_, fun i q c h1 h2 h3 hq => ?_⟩
  · show upd S.H p o q = _; rw [upd_ne (ne_of_none hu hp)]; exact hu
  · rcases List.mem_cons.mp hq with z | z
    · subst z; show upd S.H q o q ≠ none; rw [upd_same]; exact fun z => nomatch z
    · exact upd_nn (M.zn q z)
  · rcases List.mem_cons.mp hq with z | z
    · subst z; exact not_al M hp (.inr ⟨i, c, h1, h2, h3⟩)
    · exact M.zc i q c h1 h2 h3 z
/-- the held-back object written -/
def Sn.wr (S : Sn) (p : Addr) (o : HO) : Sn := ⟨S.m, S.h, upd S.H p o, S.z⟩
theorem lift_wr {S : Sn} {p : Addr} {o : HO} (hp : p ∈ S.z) : Lift S (S.wr p o) := ⟨fun _ _ h => h, fun q u h k => ⟨by
  show upd S.H p o q = _
  rw [upd_ne (fun z => k (.inl (by rw [z]; exact hp)))]; exact h, k⟩⟩
theorem mr_wr {K : PySem.W.Frag} {S : Sn} (M : MR K cm S) {p : Addr} {o : HO} (hp : p ∈ S.z) : MR K cm (S.wr p o) := by
  refine ⟨M.len, M.inj, fun i c q h1 h2 => ?_, fun q hq => ?_, M.zc⟩
  · by_cases hd : c = .dead
    · subst hd; trivial
    · refine (M.obj i c q h1 h2).lift (lift_wr hp) fun u hu => ?_
      show upd S.H p o q = _
      rw [upd_ne (fun z => M.zc i q c h2 h1 hd (by rw [z]; exact hp))]; exact hu
  · show upd S.H p o q ≠ none
    unfold upd
    split
    · exact fun z => nomatch z
    · exact M.zn q hq
/-- the object held back may be another one -/
theorem Post.rewr {K : PySem.W.Frag} {S : Sn} {α : Type} {r : R α} {P P' : α → Sn → Prop} {p : Addr} {o u : HO} (hp : p ∈ S.z) (ho : S.H p = some u) (h : Post K cm W0 S r P) (k : ∀ a S', S'.z = S.z → Ext (S.wr p o) S' → MR K cm S' → P a (S'.wr p u) → P' a S') : Post K cm W0 (S.wr p o) r P' := by
  have e0 : ∀ S', Ext (S.wr p o) S' → Ext S (S'.wr p u) := fun S' e => by
    refine ⟨e.zz, e.pre, fun q v h1 h2 => ?_, fun q hq => ?_⟩
    · have nq : q ≠ p := fun z => h2 (.inl (by rw [z]; exact hp))
      obtain ⟨h3, h4⟩ := e.keep q v (by show upd S.H p o q = _; rw [upd_ne nq]; exact h1) h2
      exact ⟨by show upd S'.H p u q = _; rw [upd_ne nq]; exact h3, h4⟩
    · by_cases nq : q = p
      · subst nq; show upd S'.H q u q = _; rw [upd_same, ho]
      · show upd S'.H p u q = _
        rw [upd_ne nq, e.rz q hq]
        show upd S.H p o q = _
        rw [upd_ne nq]
  cases r with
  | ok a h' => exact fun S' e1 e2 M' => k a S' e2.zz e2 M' (h (S'.wr p u) e1 (e0 S' e2) (mr_wr M' (by rw [e2.zz]; exact hp)))
  | exc c vs h' => exact fun S' e1 e2 M' => h (S'.wr p u) e1 (e0 S' e2) (mr_wr M' (by rw [e2.zz]; exact hp))
  | bad => exact h
/-- given back -/
def Sn.back (S : Sn) (z : List Addr) : Sn := ⟨S.m, S.h, S.H, z⟩
theorem lift_back {S : Sn} {z : List Addr} (h : ∀ p ∈ z, p ∈ S.z) : Lift S (S.back z) := ⟨fun _ _ h => h, fun q u hq k => ⟨hq, fun a => k (a.elim (fun y => .inl (h q y)) .inr)⟩⟩
theorem mr_back {K : PySem.W.Frag} {S : Sn} (M : MR K cm S) {z : List Addr} (h : ∀ p ∈ z, p ∈ S.z) : MR K cm (S.back z) :=
  ⟨M.len, M.inj, fun i c q h1 h2 => (M.obj i c q h1 h2).lift (lift_back h) fun _ hu => hu, fun q hq => M.zn q (h q hq), fun i q c h1 h2 h3 hq => M.zc i q c h1 h2 h3 (h q hq)⟩
abbrev JTs (X : Cx) (cm : Nat → Addr) (W : XW) (e : List Expr) (f : ST) : Prop := PTs X e (tT X.K cm W f)
theorem jts_nil : JTs X cm W [] tTrue := ⟨fun pins s σ H Q I ⟨S, sv, e, M, r, p⟩ => pts_nil.run pins s σ H Q I (by subst e; exact p.here M)⟩
theorem jts_one {c : Expr} {t : ST} (h : JT X cm W c t) : JTs X cm W [c] t := pts_one h
theorem Post.mono {K : PySem.W.Frag} {S : Sn} {α : Type} {r : R α} {P : α → Sn → Prop} (h : Post K cm W0 S r P) : Post K cm W S r P := by
  cases r with
  | ok a h' => exact h
  | exc c vs h' => exact fun S' a b c' => (h S' a b c').elim
  | bad => exact h
theorem noX_bind {α β : Type} {r : R α} {f : α → Hv → R β} : noX (r.bind f) = (noX r).bind fun a h => noX (f a h) := by cases r <;> rfl
theorem Post.noX {K : PySem.W.Frag} {S : Sn} {α : Type} {r : R α} {P : α → Sn → Prop} (h : Post K cm W S (noX r) P) : Post K cm W' S r P := by
  cases r with
  | ok a h' => exact h
  | exc c vs h' => exact h.elim
  | bad => exact h
theorem lc_post {own : List Nat} {gg : SG} {t : ST} {fe : SE} {σ : L2.St} {sv : Env} {D : Addr} {S0 : Sn} {J : It} {xs : List Val} {Qd : VK} (M0 : MR X.K cm S0) (r0 : SRel X.K S0 sv σ) (hD : S0.H D = none)
    (hJ : Yld X.K cm S0 J xs) (p : Post X.K cm W S0 (noX ((sLcL gg t fe (wipeE sv own) 0 xs S0.h).bind fun ys h2 => .ok (Val.fl ys) h2)) fun v S' => ∀ w, VRel X.K S' v w → Qd w S'.H) :
    ∃ Wi : Nat → Nat → Hp → Prop, (∃ m, Wi 0 m (upd S0.H D (.lst []))) ∧ ∀ i m H, Wi i m H → (J.stop i H ∧ Qd (.ref D) H) ∨ (J.go i H ∧ ∃ Nx : Hp → Prop, (∀ H', Nx H' → ∃ m', m' < m ∧ Wi (i + 1) m' H') ∧ ∀ x H', J.yld i H x H' →
      tGw X.K cm W0 own gg x (wipe σ own) H' fun σ2 H2 => wipe σ2 own = wipe σ own ∧ tT X.K cm W0 t σ2 H2 fun b H3 => if b = true then tE X.K cm W0 fe σ2 H3 fun y H4 => ∃ acc, H4 D = some (.lst acc) ∧ acc.length < sizeLine ∧ Nx (upd H4 D (.lst (acc ++ [y]))) else Nx H3) := by
  have wipe2 : wipe (wipe σ own) own = wipe σ own := by
    apply List.ext_getElem?
    intro j
    rw [wipe_get, wipe_get]
    split
    · cases σ[j]? <;> rfl
    · rfl
  have hDz : D ∉ S0.z := fun z => M0.zn D z hD
  -- what is left to do from turn i on, the items made so far acc
  let Pv : Nat → Hp → Prop := fun i H => ∃ (S : Sn) (acc : List Val) (ws : List V), S.H = H ∧ S.z = D :: S0.z ∧ Lift S0 S ∧ MR X.K cm S ∧ S.H D = some (.lst ws) ∧ (∀ q ∈ S0.z, S.H q = S0.H q) ∧ VRels X.K S acc ws ∧
    Post X.K cm W0 S (sLcL gg t fe (wipeE sv own) acc.length (xs.drop i) S.h) fun ys S' => ∀ ws', VRels X.K S' (acc ++ ys) ws' → Qd (.ref D) (upd S'.H D (.lst ws'))
  refine ⟨fun i m H => m = xs.length - i ∧ i ≤ xs.length ∧ Pv i H, ⟨xs.length, by simp, Nat.zero_le _, S0.res D (.lst []), [], [], rfl, rfl, lift_res M0 hD, mr_res M0 hD, upd_same, fun q hq => upd_ne fun z => hDz (by rw [← z]; exact hq), VRels.nil, ?_⟩, ?_⟩
  · show Post X.K cm W0 (S0.res D (.lst [])) (sLcL gg t fe (wipeE sv own) 0 xs S0.h) _
    generalize sLcL gg t fe (wipeE sv own) 0 xs S0.h = r at p
    cases r with
    | exc c vs h' => exact p.elim
    | bad => exact p.elim
    | ok ys h' =>
      intro S' e1 e2 M'
      simp only [bind_ok] at p
      intro ws' hw
      have hz : D ∈ S'.z := by rw [e2.zz]; exact List.mem_cons_self
      have M2 := mr_back (mr_wr M' (o := .lst ws') hz) (z := S0.z) fun q hq => by show q ∈ S'.z; rw [e2.zz]; exact List.mem_cons_of_mem _ hq
      have L2' : Lift S' ((S'.wr D (.lst ws')).back S0.z) := (lift_wr hz).trans (lift_back fun q hq => by show q ∈ S'.z; rw [e2.zz]; exact List.mem_cons_of_mem _ hq)
      refine p ((S'.wr D (.lst ws')).back S0.z) e1 (ext_of_res M0 hD e2) M2 (.ref D) ⟨D, ws', rfl, ⟨upd_same, ?_⟩, VRels.lift L2' ys hw⟩
      rintro (a | ⟨i, c, h1, h2, h3⟩)
      · exact hDz a
      · exact M'.zc i D c h1 h2 h3 hz
  rintro i m _ ⟨rfl, hi, S, acc, ws, rfl, hz, L, M, hDw, hq0, ra, p⟩
  obtain ⟨y1, y2⟩ := hJ S L M i
  have hzD : D ∈ S.z := by rw [hz]; exact List.mem_cons_self
  by_cases hlt : i < xs.length
  · obtain ⟨go, y3⟩ := y2 xs[i] (List.getElem?_eq_getElem hlt)
    refine .inr ⟨go, Pv (i + 1), fun H' h => ⟨xs.length - (i + 1), by omega, rfl, hlt, h⟩, fun x H' hy => ?_⟩
    obtain ⟨S2, rfl, eh, e2, M2, r2⟩ := y3 x H' hy
    rw [List.drop_eq_getElem_cons hlt, ← eh] at p
    have rw0 : SRel X.K S2 (wipeE sv own) (wipe σ own) := ((r0.lift L).ext e2).wiped own
    refine ⟨S2, wipeE sv own, xs[i], rfl, M2, rw0, r2, Post.bind (Post.step e2 p) fun s1 S3 e3 M3 p3 σ3 r3 w3 => ⟨w3.trans wipe2, ?_⟩⟩
    refine ⟨S3, s1, rfl, M3, r3, Post.bind p3 fun b S4 e4 M4 p4 => ?_⟩
    have e24 : Ext S S4 := e2.trans (e3.trans e4)
    have hD4 : S4.H D = some (.lst ws) := (e24.rz D hzD).trans hDw
    cases b with
    | false =>
      show Pv (i + 1) S4.H
      rw [if_neg Bool.false_ne_true] at p4
      exact ⟨S4, acc, ws, rfl, e24.zz.trans hz, L.trans e24.lift, M4, hD4, fun q hq => (e24.rz q (by rw [hz]; exact List.mem_cons_of_mem _ hq)).trans (hq0 q hq), VRels.ext e24 acc ra, p4⟩
    | true =>
      show (if true = true then _ else _)
      rw [if_pos rfl] at p4 ⊢
      refine ⟨S4, s1, rfl, M4, r3.ext e4, Post.bind p4 fun y S5 e5 M5 p5 w5 r5 => ?_⟩
      obtain ⟨hlen, p5⟩ := Post.ite p5
      have e25 : Ext S S5 := e24.trans e5
      have hD5 : S5.H D = some (.lst ws) := (e25.rz D hzD).trans hDw
      have hz5 : D ∈ S5.z := by rw [e25.zz]; exact hzD
      have p6 : Post X.K cm W0 S5 (sLcL gg t fe (wipeE sv own) (acc.length + 1) (xs.drop (i + 1)) S5.h) fun ys S' => ∀ ws', VRels X.K S' (acc ++ y :: ys) ws' → Qd (.ref D) (upd S'.H D (.lst ws')) := Post.bind p5 fun ys S6 e6 M6 q6 => q6.here M6
      have p7 := Post.rewr (cm := cm) (o := HO.lst (ws ++ [w5])) hz5 hD5 p6 (P' := fun ys S' => ∀ ws', VRels X.K S' ((acc ++ [y]) ++ ys) ws' → Qd (.ref D) (upd S'.H D (.lst ws'))) fun ys S' ez' e' M' q => by
        have ea : (acc ++ [y]) ++ ys = acc ++ y :: ys := by simp
        rw [ea]
        intro ws' hw
        have hz' : D ∈ S'.z := by rw [ez']; exact hz5
        have q2 := q ws' (VRels.lift (lift_wr hz') _ hw)
        have eu : upd (S'.wr D (.lst ws)).H D (.lst ws') = upd S'.H D (.lst ws') := upd_upd
        rw [eu] at q2
        exact q2
      have hll : (acc ++ [y]).length = acc.length + 1 := by simp
      rw [← hll] at p7
      refine ⟨ws, hD5, by rw [← ra.length, sizeLine_eq]; exact hlen, S5.wr D (.lst (ws ++ [w5])), acc ++ [y], ws ++ [w5], rfl, e25.zz.trans hz, (L.trans e25.lift).trans (lift_wr hz5), mr_wr M5 hz5, upd_same, fun q hq => ?_, VRels.lift (lift_wr hz5) _ (VRels.append (VRels.ext e25 acc ra) (VRels.cons r5 VRels.nil)), p7⟩
      show upd S5.H D _ q = _
      rw [upd_ne (fun z => hDz (by rw [← z]; exact hq))]
      exact (e25.rz q (by rw [hz]; exact List.mem_cons_of_mem _ hq)).trans (hq0 q hq)
  · have ei : i = xs.length := by omega
    refine .inl ⟨y1 ei, ?_⟩
    rw [List.drop_eq_nil_of_le (by omega)] at p
    have q' := p.here M ws (by simpa using ra)
    have e : upd S.H D (.lst ws) = S.H := by
      funext b
      by_cases hb : b = D
      · subst hb; rw [upd_same, hDw]
      · rw [upd_ne hb]
    rw [e] at q'
    exact q'
theorem je_lc {elt tg iter : Expr} {ifs : List Expr} {scope : Scope} {own : List (Str × Nat)} {it : SI} {gg : SG} {t : ST} {fe : SE} (hc : X.calm = true) (hN : X.N.Nodup) (hi : JI X cm W tg iter it) (ok : BlkOk X.N X.env.scope scope own)
    (hg : ∀ (s : Shared) (H : Hp) (C : Addr) (cl : List (Str × Addr)) (fp : List Addr), JG (X.blk s H scope (compEnvC scope cl C X.env) fp) cm W0 (own.map (·.2)) tg gg) (ht : ∀ (s : Shared) (H : Hp) (C : Addr) (cl : List (Str × Addr)) (fp : List Addr), JTs (X.blk s H scope (compEnvC scope cl C X.env) fp) cm W0 ifs t)
    (he : ∀ (s : Shared) (H : Hp) (C : Addr) (cl : List (Str × Addr)) (fp : List Addr), JE (X.blk s H scope (compEnvC scope cl C X.env) fp) cm W0 elt fe) (hs : ∀ x, foldedSetIterable iter X.env x = pure x := by intro _; rfl) :
    JE X cm W (.ListComp elt [⟨tg, iter, ifs, 0⟩] scope pos) (sLc (own.map (·.2)) it gg t fe) := PE.imp (pe_lc hc hN hi ok hg ht he hs) fun σ H Q ⟨S, sv, e, M, r, p⟩ => by
  subst e
  refine ⟨S, sv, rfl, M, r, Post.bind p fun xs S0 e0 M0 p0 J hJ D hD => ?_⟩
  exact lc_post M0 (r.ext e0) hD hJ p0
theorem js_setLc {i : Nat} {y : Str} {py : Pos} {elt tg iter : Expr} {ifs : List Expr} {scope : Scope} {own : List (Str × Nat)} {spos : Pos} {it : SI} {gg : SG} {t : ST} {fe : SE} (hc : X.calm = true) (hN : X.N.Nodup) (hy : X.N[i]? = some y) (hyl : X.env.scope.names.lookup y = some .local)
    (hsw : swapsWith (.ListComp elt [⟨tg, iter, ifs, 0⟩] scope pos) (some (.Name y py)) spos.line X.env = pure true) (hi : JI X cm W tg iter it) (ok : BlkOk X.N X.env.scope scope own)
    (hg : ∀ (s : Shared) (H : Hp) (C : Addr) (cl : List (Str × Addr)) (fp : List Addr), JG (X.blk s H scope (compEnvC scope cl C X.env) fp) cm W0 (own.map (·.2)) tg gg) (ht : ∀ (s : Shared) (H : Hp) (C : Addr) (cl : List (Str × Addr)) (fp : List Addr), JTs (X.blk s H scope (compEnvC scope cl C X.env) fp) cm W0 ifs t)
    (he : ∀ (s : Shared) (H : Hp) (C : Addr) (cl : List (Str × Addr)) (fp : List Addr), JE (X.blk s H scope (compEnvC scope cl C X.env) fp) cm W0 elt fe) (hs : ∀ x, foldedSetIterable iter X.env x = pure x := by intro _; rfl) :
    JS X cm W (.Assign [.Name y py] (.ListComp elt [⟨tg, iter, ifs, 0⟩] scope pos) spos) (sSet i (sLc (own.map (·.2)) it gg t fe)) := PS.imp (ps_setLc hc hN hy hyl hsw hi ok hg ht he hs) fun Dn σ H ⟨S, sv, e, M, r, p⟩ => by
  subst e
  have p : Post X.K cm W S ((sLc (own.map (·.2)) it gg t fe sv S.h).bind fun v h1 => .ok (.nx (sv.set i (some v))) h1) (FlP X.K Dn) := p
  have p' : Post X.K cm W S (sLc (own.map (·.2)) it gg t fe sv S.h) fun v S' => ∀ w, VRel X.K S' v w → gName i w σ S'.H Dn.nx := Post.bind p fun v S1 e1 M1 p1 w r1 => p1.here M1 _ ((r.ext e1).set r1 i)
  refine ⟨S, sv, rfl, M, r, Post.bind p' fun xs S0 e0 M0 p0 J hJ D hD => ?_⟩
  exact lc_post M0 (r.ext e0) hD hJ p0
end
/-! ### defs and calls -/
section
/-- what a def promises that raises nothing: F of the arguments -/
def spF (K : PySem.W.Frag) (cm : Nat → Addr) (n : Nat) (F : SF) : Sp := fun vs H Q _ => vs.length = n ∧ ∃ S us, S.H = H ∧ MR K cm S ∧ VRels K S us vs ∧ Post K cm W0 S (F us S.h) fun v S' => ∀ w, VRel K S' v w → Q w S'.H
variable {P : Program} {w : World} {K : PySem.W.Frag} {mg : Str → Option Value} {base : Heap} {cm : Nat → Addr}
/-- a def's F -/
abbrev FnS (P : Program) (w : World) (K : PySem.W.Frag) (mg : Str → Option Value) (base : Heap) (cm : Nat → Addr) (k : Nat) (f : Addr) (fd : FuncData) (ps : List Str) (F : SF) : Prop := FnOk P w K mg base CX0 k f fd ps (spF K cm ps.length F)
theorem srel_start {S : Sn} {us : List Val} {vs : List V} (N : List Str) (r : VRels K S us vs) : SRel K S (us.map some ++ List.replicate (N.length - us.length) none) (L2.start N vs) := by
  unfold L2.start
  refine ⟨by simp [r.length], fun i v h => ?_⟩
  by_cases hi : i < us.length
  · rw [List.getElem?_append_left (by simpa using hi), List.getElem?_map] at h
    cases e : us[i]? with
    | none => rw [e] at h; cases h
    | some a =>
      rw [e] at h
      cases h
      obtain ⟨w, h1, h2⟩ := r.get e
      exact ⟨w, by rw [List.getElem?_append_left (by rw [List.length_map, ← r.length]; exact hi), List.getElem?_map, h1]; rfl, h2⟩
  · rw [List.getElem?_append_right (by simpa using hi), List.getElem?_replicate] at h
    split at h <;> cases h
theorem fn_body {x qual : Str} {st : Stmt} {f : Addr} {fd : FuncData} {N ps : List Str} {k : Nat} {b : SS} (F : Fun K x qual st f fd) (S0 : FnScope N ps (defScope st))
    (hb : ∀ (cdv : Value) (A : Around) (outer : List PySem.Env) (s : Shared) (H : Hp) (E : XK), Room k (A.deeper (envOfC qual (defScope st) s.heap.objs.size f cdv)) → JB (cxOf CX0 P w K mg base N qual (defScope st) f cdv A outer s H E).nox cm W0 (defBody st) b) :
    FnS P w K mg base cm (k + 1) f fd ps (sFn ps.length N.length b) := by
  refine F.ok (sp := spF K cm ps.length (sFn ps.length N.length b)) S0 (fun vs H Q E h => h.1) fun cdv A outer s H vs Q E hr ⟨hl, S, us, e, M, r, p⟩ => ⟨_, hb cdv A outer s H E hr, ?_⟩
  subst e
  have hul : us.length = ps.length := r.length.trans hl
  refine ⟨S, us.map some ++ List.replicate (N.length - ps.length) none, rfl, M, by rw [← hul]; exact srel_start N r, ?_⟩
  unfold sFn at p
  rw [if_pos hul] at p
  generalize b (us.map some ++ List.replicate (N.length - ps.length) none) S.h = z at p
  cases z with
  | ok fl h' =>
    cases fl with
    | nx s => exact fun S' e1 e2 M' σ' _ => p S' e1 e2 M' .non rfl
    | rt v => exact fun S' e1 e2 M' w rw' => p S' e1 e2 M' w rw'
    | bk s => exact p.elim
    | ct s => exact p.elim
  | exc c v h' => exact p
  | bad => exact p.elim
/-- a call -/
theorem je_call {X : Cx} {W : XW} {k : Nat} {f : Addr} {fd : FuncData} {ps : List Str} {G : SF} {x : Str} {p pos : Pos} {e : Expr} {es : List Expr} {fs : SA} (F : FnS X.prog X.w X.K X.mg X.base cm k f fd ps G) (hr : Room k X.A) (hg : Gl X x) (hm : X.mg x = some (.ref f)) (hk : PySem.W.keepIn X.K (.ref f) = true) (hb : Binds X.K fd ps [])
    (ha : JA X cm W (e :: es) fs) (hdb : (x == ("__debug__" : Str)) = false := by decide) (he : starEach (e :: es) X.env = (false, eval e X.env) :: starEach es X.env := by rfl) (hpl : (backTo pos (starEach es X.env)).any (·.1) = false := by rfl) :
    JE X cm W (.Call (.Name x p) (e :: es) [] pos) (sCall (fun us h => if us.length = ps.length then noX (G us h) else .bad) fs) := PE.imp (pe_call F hr hg hm hk hb .nil pass0 ha hdb he hpl) fun σ H Q ⟨S, sv, e, M, r, p⟩ => by
  subst e
  refine ⟨S, sv, rfl, M, r, Post.bind p fun vs S1 e1 M1 p1 ws r1 => ?_⟩
  obtain ⟨hl, p1⟩ := Post.ite p1
  rw [List.append_nil]
  exact ⟨by rw [← r1.length]; exact hl, S1, vs, rfl, M1, r1, p1.noX⟩
/-- a def may be read by a semantics that cuts off what it made for itself -/
def Val.lt (n : Nat) : Val → Bool
  | .ref i => decide (i < n)
  | .tup vs => ltl n vs
  | .fl vs => ltl n vs
  | .kl vs => ltl n vs
  | _ => true
where ltl (n : Nat) : List Val → Bool
  | [] => true
  | v :: vs => Val.lt n v && ltl n vs
def Cell.lt (n : Nat) : Cell → Bool
  | .dead => true
  | .lst vs => Val.lt.ltl n vs
  | .dK _ vs => Val.lt.ltl n vs
  | .dT _ vs => Val.lt.ltl n vs
  | .ins _ _ vs => Val.lt.ltl n vs
/-- the first n cells are as they were, or speak of the first n cells alone -/
def TrOk (h h1 : Hv) : Prop := ∀ (i : Nat) (c : Cell), i < h.length → h1[i]? = some c → h[i]? = some c ∨ c.lt h.length = true
open Classical in
noncomputable def trunc (F : SF) : SF := fun us h => (F us h).bind fun v h1 => if v.lt h.length = true ∧ TrOk h h1 then .ok v (h1.take h.length) else .bad
def Sn.cut (S : Sn) (n : Nat) : Sn := ⟨S.m.take n, S.h.take n, S.H, S.z⟩
theorem al_cut {S : Sn} {n : Nat} {p : Addr} (a : Al (S.cut n) p) : Al S p := by
  rcases a with a | ⟨i, c, h1, h2, h3⟩
  · exact .inl a
  · have t : ∀ {α : Type} {l : List α} {x : α}, (l.take n)[i]? = some x → l[i]? = some x := fun {α l x} h => by
      rw [List.getElem?_take] at h
      split at h
      · exact h
      · cases h
    exact .inr ⟨i, c, t h1, t h2, h3⟩
mutual
theorem VRel.cut {S : Sn} {n : Nat} : ∀ (v : Val) {w : V}, v.lt n = true → VRel K S v w → VRel K (S.cut n) v w
  | .non, _, _, h => h
  | .bl _, _, _, h => h
  | .int _, _, _, h => h
  | .str _, _, _, h => h
  | .ref i, _, hl, ⟨p, h1, h2⟩ => ⟨p, h1, by show (S.m.take n)[i]? = some p; rw [List.getElem?_take_of_lt (by simpa [Val.lt] using hl)]; exact h2⟩
  | .tup vs, _, hl, ⟨p, ws, h1, h2, h3⟩ => ⟨p, ws, h1, (match h2 with | .inl h => .inl ⟨h.1, fun a => h.2 (al_cut a)⟩ | .inr h => .inr h), VRels.cut vs hl h3⟩
  | .fl vs, _, hl, ⟨p, ws, h1, h2, h3⟩ => ⟨p, ws, h1, ⟨h2.1, fun a => h2.2 (al_cut a)⟩, VRels.cut vs hl h3⟩
  | .kl vs, _, hl, ⟨p, ws, h1, h2, h3⟩ => ⟨p, ws, h1, (match h2 with | .inl h => .inl ⟨h.1, fun a => h.2 (al_cut a)⟩ | .inr h => .inr h), VRels.cut vs hl h3⟩
theorem VRels.cut {S : Sn} {n : Nat} : ∀ (vs : List Val) {ws : List V}, Val.lt.ltl n vs = true → VRels K S vs ws → VRels K (S.cut n) vs ws
  | [], _, _, h => h
  | v :: vs, _, hl, ⟨w, r, h1, h2, h3⟩ => by
    simp only [Val.lt.ltl, Bool.and_eq_true] at hl
    exact ⟨w, r, h1, VRel.cut v hl.1 h2, VRels.cut vs hl.2 h3⟩
end
mutual
theorem VRel.ltOf {S : Sn} : ∀ (v : Val) {w : V}, VRel K S v w → v.lt S.m.length = true
  | .non, _, _ => rfl
  | .bl _, _, _ => rfl
  | .int _, _, _ => rfl
  | .str _, _, _ => rfl
  | .ref i, _, ⟨p, h1, h2⟩ => by simpa [Val.lt] using (List.getElem?_eq_some_iff.mp h2).1
  | .tup vs, _, ⟨p, ws, h1, h2, h3⟩ => VRels.ltOf vs h3
  | .fl vs, _, ⟨p, ws, h1, h2, h3⟩ => VRels.ltOf vs h3
  | .kl vs, _, ⟨p, ws, h1, h2, h3⟩ => VRels.ltOf vs h3
theorem VRels.ltOf {S : Sn} : ∀ (vs : List Val) {ws : List V}, VRels K S vs ws → Val.lt.ltl S.m.length vs = true
  | [], _, _ => rfl
  | v :: vs, _, ⟨w, r, h1, h2, h3⟩ => by simp only [Val.lt.ltl, Bool.and_eq_true]; exact ⟨VRel.ltOf v h2, VRels.ltOf vs h3⟩
end
theorem MR.cellLt {S : Sn} (M : MR K cm S) {i : Nat} {c : Cell} (h : S.h[i]? = some c) : c.lt S.h.length = true := by
  have hl : i < S.m.length := by rw [M.len]; exact (List.getElem?_eq_some_iff.mp h).1
  have q := M.obj i c _ h (List.getElem?_eq_getElem hl)
  cases c with
  | dead => rfl
  | lst vs => obtain ⟨ws, _, h2⟩ := q; rw [← M.len]; exact VRels.ltOf vs h2
  | dK ks vs => obtain ⟨ws, _, _, h2⟩ := q; rw [← M.len]; exact VRels.ltOf vs h2
  | dT ks vs => obtain ⟨ws, _, _, h2⟩ := q; rw [← M.len]; exact VRels.ltOf vs h2
  | ins c fs vs => obtain ⟨dx, ws, _, _, h2⟩ := q; rw [← M.len]; exact VRels.ltOf vs h2
theorem mr_cut {S : Sn} {n : Nat} (M : MR K cm S) (ha : (S.h.take n).all (Cell.lt n) = true) : MR K cm (S.cut n) := by
  have t : ∀ {α : Type} {l : List α} {x : α} {i : Nat}, (l.take n)[i]? = some x → l[i]? = some x := fun {α l x i} h => by
    rw [List.getElem?_take] at h
    split at h
    · exact h
    · cases h
  refine ⟨by show (S.m.take n).length = (S.h.take n).length; simp [M.len], fun i j p ci cj h1 h2 h3 h4 h5 h6 => M.inj i j p ci cj (t h1) (t h2) (t h3) h4 (t h5) h6, fun i c p h1 h2 => ?_, M.zn, fun i p c h1 h2 h3 => M.zc i p c (t h1) (t h2) h3⟩
  have q := M.obj i c p (t h1) (t h2)
  have hc : c.lt n = true := List.all_eq_true.mp ha c (List.mem_of_getElem? h1)
  cases c with
  | dead => trivial
  | lst vs =>
    obtain ⟨ws, e1, e2⟩ := q
    exact ⟨ws, e1, VRels.cut vs hc e2⟩
  | dK ks vs =>
    obtain ⟨ws, e1, hl, e2⟩ := q
    exact ⟨ws, e1, hl, VRels.cut vs hc e2⟩
  | dT ks vs =>
    obtain ⟨ws, e1, hl, e2⟩ := q
    exact ⟨ws, e1, hl, VRels.cut vs hc e2⟩
  | ins cc fs vs =>
    obtain ⟨dx, ws, e1, hl, e2⟩ := q
    exact ⟨dx, ws, e1, hl, VRels.cut vs hc e2⟩
theorem fn_trunc {k : Nat} {f : Addr} {fd : FuncData} {ps : List Str} {F : SF} (h : FnS P w K mg base cm k f fd ps F) : FnS P w K mg base cm k f fd ps (trunc F) := FnOk.imp h fun vs H Q E ⟨hl, S, us, e, M, r, p⟩ => by
  refine ⟨hl, S, us, e, M, r, ?_⟩
  unfold trunc at p
  generalize F us S.h = z at p
  cases z with
  | exc c us h' => exact p
  | bad => exact p
  | ok v h' =>
    intro S' e1 e2 M' w rw'
    subst e1
    rw [bind_ok] at p
    by_cases hc : v.lt S.h.length = true ∧ TrOk S.h S'.h
    rotate_left
    · rw [if_neg hc] at p; exact p.elim
    rw [if_pos hc] at p
    obtain ⟨c1, c2'⟩ := hc
    have c2 : (S'.h.take S.h.length).all (Cell.lt S.h.length) = true := by
      refine List.all_eq_true.mpr fun c hm => ?_
      obtain ⟨i, hi⟩ := List.getElem?_of_mem hm
      rw [List.getElem?_take] at hi
      split at hi
      · rcases c2' i c (by assumption) hi with z | z
        · exact M.cellLt z
        · exact z
      · cases hi
    have em : S'.m.take S.h.length = S.m := by
      apply List.ext_getElem?
      intro i
      rw [List.getElem?_take]
      by_cases hi : i < S.h.length
      · rw [if_pos hi]
        have : i < S.m.length := by rw [M.len]; exact hi
        rw [List.getElem?_eq_getElem this]
        exact e2.pre i _ (List.getElem?_eq_getElem this)
      · rw [if_neg hi, List.getElem?_eq_none (by rw [M.len]; omega)]
    refine p (S'.cut S.h.length) rfl ⟨e2.zz, fun i q hq => ?_, fun q o h1 h2 => ?_, e2.rz⟩ (mr_cut M' c2) w (VRel.cut v c1 rw')
    · show (S'.m.take S.h.length)[i]? = some q
      rw [em]; exact hq
    · obtain ⟨h3, h4⟩ := e2.keep q o h1 h2
      exact ⟨h3, fun a => h4 (al_cut a)⟩
/-- .. or by any that says the same -/
theorem fn_eq {k : Nat} {f : Addr} {fd : FuncData} {ps : List Str} {F G : SF} (h : FnS P w K mg base cm k f fd ps F) (e : F = G) : FnS P w K mg base cm k f fd ps G := e ▸ h
/-- .. or by one that says less -/
theorem fn_le {k : Nat} {f : Addr} {fd : FuncData} {ps : List Str} {F G : SF} (h : FnS P w K mg base cm k f fd ps F) (e : ∀ us h, G us h = .bad ∨ F us h = G us h) : FnS P w K mg base cm k f fd ps G := FnOk.imp h fun vs H Q E ⟨hl, S, us, e', M, r, p⟩ => by
  refine ⟨hl, S, us, e', M, r, ?_⟩
  rcases e us S.h with z | z
  · rw [z] at p; exact p.elim
  · rw [z]; exact p
end
end Sx

set_option Elab.async false
set_option linter.all false
set_option maxRecDepth 100000
set_option maxHeartbeats 2000000
/-! SxOps: operators, comparisons, places, built-ins. -/
namespace Sx
open PySem PySem.Spec L2
open PyProof.Rows hiding St
/-! ### equality of data -/
def Str.ofL (x : List Nat) : Str := ⟨x.toArray⟩
theorem ofL_of {y : Str} {x : List Nat} (h : y.cps.toList = x) : y = Str.ofL x := by
  obtain ⟨a⟩ := y
  subst h
  rfl
theorem ofL_toList (x : List Nat) : (Str.ofL x).cps.toList = x := rfl
theorem ofL_inj {x y : List Nat} (h : Str.ofL x = Str.ofL y) : x = y := by
  have := congrArg (fun s : Str => s.cps.toList) h
  exact this
mutual
def Val.pd : Val → PyData
  | .bl b => .bool b
  | .int i => .int i
  | .str x => .str (Str.ofL x)
  | .tup vs => .tuple (Val.pds vs)
  | .fl vs => .list (Val.pds vs)
  | .kl vs => .list (Val.pds vs)
  | .non => .none
  | .ref _ => .none
def Val.pds : List Val → List PyData
  | [] => []
  | v :: vs => Val.pd v :: Val.pds vs
end
mutual
def Val.noRef : Val → Bool
  | .ref _ => false
  | .tup vs => Val.noRefs vs
  | .fl vs => Val.noRefs vs
  | .kl vs => Val.noRefs vs
  | _ => true
def Val.noRefs : List Val → Bool
  | [] => true
  | v :: vs => Val.noRef v && Val.noRefs vs
end
mutual
/-- == of values -/
def Val.eq : Val → Val → Bool
  | .non, .non => true
  | .bl a, .bl b => a == b
  | .bl a, .int b => (if a then 1 else 0) == b
  | .int a, .bl b => a == (if b then 1 else 0)
  | .int a, .int b => a == b
  | .str a, .str b => a == b
  | .tup a, .tup b => Val.eqs a b
  | .fl a, .fl b => Val.eqs a b
  | .fl a, .kl b => Val.eqs a b
  | .kl a, .fl b => Val.eqs a b
  | .kl a, .kl b => Val.eqs a b
  | _, _ => false
def Val.eqs : List Val → List Val → Bool
  | [], [] => true
  | a :: as, b :: bs => Val.eq a b && Val.eqs as bs
  | _, _ => false
end
theorem str_beq (a b : List Nat) : (Str.ofL a == Str.ofL b) = (a == b) := by
  by_cases e : a = b
  · subst e; simp
  · rw [beq_eq_false_iff_ne.mpr e, beq_eq_false_iff_ne.mpr (fun z => e (ofL_inj z))]
mutual
theorem eqv_pd : ∀ (a b : Val), a.noRef = true → b.noRef = true → PyData.eqv a.pd b.pd = Val.eq a b
  | .non, b, _, hb => by cases b <;> simp_all [Val.pd, PyData.eqv, Val.eq, Val.noRef]
  | .bl a, b, _, hb => by cases b <;> simp_all [Val.pd, PyData.eqv, Val.eq, Val.noRef]
  | .int a, b, _, hb => by cases b <;> simp_all [Val.pd, PyData.eqv, Val.eq, Val.noRef]
  | .str a, b, _, hb => by cases b <;> simp_all [Val.pd, PyData.eqv, Val.eq, Val.noRef, str_beq]
  | .ref i, b, ha, _ => by simp [Val.noRef] at ha
  | .tup vs, b, ha, hb => by
    cases b with
    | tup us => simp only [Val.pd, PyData.eqv, Val.eq]; exact eqvs_pd vs us (by simpa [Val.noRef] using ha) (by simpa [Val.noRef] using hb)
    | _ => simp_all [Val.pd, PyData.eqv, Val.eq, Val.noRef]
  | .fl vs, b, ha, hb => by
    cases b with
    | fl us => simp only [Val.pd, PyData.eqv, Val.eq]; exact eqvs_pd vs us (by simpa [Val.noRef] using ha) (by simpa [Val.noRef] using hb)
    | kl us => simp only [Val.pd, PyData.eqv, Val.eq]; exact eqvs_pd vs us (by simpa [Val.noRef] using ha) (by simpa [Val.noRef] using hb)
    | _ => simp_all [Val.pd, PyData.eqv, Val.eq, Val.noRef]
  | .kl vs, b, ha, hb => by
    cases b with
    | fl us => simp only [Val.pd, PyData.eqv, Val.eq]; exact eqvs_pd vs us (by simpa [Val.noRef] using ha) (by simpa [Val.noRef] using hb)
    | kl us => simp only [Val.pd, PyData.eqv, Val.eq]; exact eqvs_pd vs us (by simpa [Val.noRef] using ha) (by simpa [Val.noRef] using hb)
    | _ => simp_all [Val.pd, PyData.eqv, Val.eq, Val.noRef]
theorem eqvs_pd : ∀ (a b : List Val), Val.noRefs a = true → Val.noRefs b = true → PyData.eqvAll (Val.pds a) (Val.pds b) = Val.eqs a b
  | [], [], _, _ => by simp [Val.pds, PyData.eqvAll, Val.eqs]
  | [], _ :: _, _, _ => by simp [Val.pds, PyData.eqvAll, Val.eqs]
  | _ :: _, [], _, _ => by simp [Val.pds, PyData.eqvAll, Val.eqs]
  | a :: as, b :: bs, ha, hb => by
    simp only [Val.noRefs, Bool.and_eq_true] at ha hb
    simp only [Val.pds, PyData.eqvAll, Val.eqs]
    rw [eqv_pd a b ha.1 hb.1, eqvs_pd as bs ha.2 hb.2]
end
section
variable {K : PySem.W.Frag} {cm : Nat → Addr} {W : XW} {S : Sn}
mutual
theorem dp_of : ∀ (v : Val) {w : V}, v.noRef = true → VRel K S v w → Dp K S.H w v.pd
  | .non, _, _, h => by cases h; simp only [Val.pd]; exact .non
  | .bl b, _, _, h => by cases h; simp only [Val.pd]; exact .bl b
  | .int b, _, _, h => by cases h; simp only [Val.pd]; exact .int b
  | .str x, _, _, ⟨y, h1, h2⟩ => by subst h1; rw [ofL_of h2]; simp only [Val.pd]; exact .str _
  | .ref i, _, h, _ => by simp [Val.noRef] at h
  | .tup vs, _, h, ⟨p, ws, h1, h2, h3⟩ => by subst h1; simp only [Val.pd]; exact .tup h2.sq (dps_of vs (by simpa [Val.noRef] using h) h3)
  | .fl vs, _, h, ⟨p, ws, h1, h2, h3⟩ => by subst h1; simp only [Val.pd]; exact .lst h2.sq (dps_of vs (by simpa [Val.noRef] using h) h3)
  | .kl vs, _, h, ⟨p, ws, h1, h2, h3⟩ => by subst h1; simp only [Val.pd]; exact .lst h2.sq (dps_of vs (by simpa [Val.noRef] using h) h3)
theorem dps_of : ∀ (vs : List Val) {ws : List V}, Val.noRefs vs = true → VRels K S vs ws → DpAll K S.H ws (Val.pds vs)
  | [], _, _, h => by cases h; simp only [Val.pds]; exact .nil
  | v :: vs, _, h, ⟨w, r, h1, h2, h3⟩ => by
    simp only [Val.noRefs, Bool.and_eq_true] at h
    subst h1
    simp only [Val.pds]
    exact .cons (dp_of v h.1 h2) (dps_of vs h.2 h3)
end
/-- may be compared by == -/
def Val.cmpOk (v : Val) : Bool := v.noRef && SeqAt.shaped v.pd
def gEq : Val → Val → Hv → R Val
  | .int a, .int b, h => .ok (.bl (decide (a = b))) h
  | .str a, .str b, h => .ok (.bl (decide (a = b))) h
  | .bl a, .bl b, h => .ok (.bl (decide (a = b))) h
  | a, b, h => if a.cmpOk = true ∧ b.cmpOk = true then .ok (.bl (Val.eq a b)) h else .bad
def gNe : Val → Val → Hv → R Val
  | .int a, .int b, h => .ok (.bl (!decide (a = b))) h
  | .str a, .str b, h => .ok (.bl (!decide (a = b))) h
  | .bl a, .bl b, h => .ok (.bl (!decide (a = b))) h
  | a, b, h => if a.cmpOk = true ∧ b.cmpOk = true then .ok (.bl (!Val.eq a b)) h else .bad
theorem Post.bl {b b' : Bool} {Q : VK} (h : Post K cm W S (.ok (.bl b) S.h) fun v S' => ∀ w, VRel K S' v w → Q w S'.H) (M : MR K cm S) (e : b = b') : Q (.bl b') S.H := by subst e; exact h.here M _ rfl
theorem str_dec {x x' : Str} {a b : List Nat} (h : x.cps.toList = a) (h' : x'.cps.toList = b) : decide (V.str x = V.str x') = decide (a = b) := by
  rw [ofL_of h, ofL_of h']
  by_cases e : a = b
  · subst e; simp
  · rw [decide_eq_false e, decide_eq_false (fun z => e (ofL_inj (V.str.inj z)))]
theorem os_eq : OpS K cm W (fun x y H Q => rEq x y H Q ∨ rEqD K x y H Q) gEq := by
  intro S v1 v2 w1 w2 Q M r1 r2 p
  have gen : (if v1.cmpOk = true ∧ v2.cmpOk = true then R.ok (Val.bl (Val.eq v1 v2)) S.h else R.bad) = gEq v1 v2 S.h → rEq w1 w2 S.H Q ∨ rEqD K w1 w2 S.H Q := fun e => by
    rw [← e] at p
    obtain ⟨⟨h1, h2⟩, p⟩ := Post.ite p
    simp only [Val.cmpOk, Bool.and_eq_true] at h1 h2
    exact .inr ⟨_, _, dp_of v1 h1.1 r1, dp_of v2 h2.1 r2, h1.2, h2.2, p.bl M (eqv_pd v1 v2 h1.1 h2.1).symm⟩
  cases v1 with
  | int a =>
    cases v2 with
    | int b =>
      cases r1; cases r2
      refine .inl ⟨rfl, p.bl M ?_⟩
      by_cases e : a = b
      · subst e; simp
      · rw [decide_eq_false e, decide_eq_false (fun z => e (V.int.inj z))]
    | _ => exact gen rfl
  | str a =>
    cases v2 with
    | str b =>
      obtain ⟨x, rfl, hx⟩ := r1
      obtain ⟨y, rfl, hy⟩ := r2
      exact .inl ⟨rfl, p.bl M (str_dec hx hy).symm⟩
    | _ => exact gen rfl
  | bl a =>
    cases v2 with
    | bl b =>
      cases r1; cases r2
      refine .inl ⟨rfl, p.bl M ?_⟩
      cases a <;> cases b <;> rfl
    | _ => exact gen rfl
  | _ => exact gen rfl
theorem os_ne : OpS K cm W (fun x y H Q => rNe x y H Q ∨ rNeD K x y H Q) gNe := by
  intro S v1 v2 w1 w2 Q M r1 r2 p
  have gen : (if v1.cmpOk = true ∧ v2.cmpOk = true then R.ok (Val.bl (!Val.eq v1 v2)) S.h else R.bad) = gNe v1 v2 S.h → rNe w1 w2 S.H Q ∨ rNeD K w1 w2 S.H Q := fun e => by
    rw [← e] at p
    obtain ⟨⟨h1, h2⟩, p⟩ := Post.ite p
    simp only [Val.cmpOk, Bool.and_eq_true] at h1 h2
    exact .inr ⟨_, _, dp_of v1 h1.1 r1, dp_of v2 h2.1 r2, h1.2, h2.2, p.bl M (by rw [eqv_pd v1 v2 h1.1 h2.1])⟩
  cases v1 with
  | int a =>
    cases v2 with
    | int b =>
      cases r1; cases r2
      refine .inl ⟨rfl, p.bl M ?_⟩
      by_cases e : a = b
      · subst e; simp
      · rw [decide_eq_false e, decide_eq_false (fun z => e (V.int.inj z))]
    | _ => exact gen rfl
  | str a =>
    cases v2 with
    | str b =>
      obtain ⟨x, rfl, hx⟩ := r1
      obtain ⟨y, rfl, hy⟩ := r2
      exact .inl ⟨rfl, p.bl M (by rw [str_dec hx hy])⟩
    | _ => exact gen rfl
  | bl a =>
    cases v2 with
    | bl b =>
      cases r1; cases r2
      refine .inl ⟨rfl, p.bl M ?_⟩
      cases a <;> cases b <;> rfl
    | _ => exact gen rfl
  | _ => exact gen rfl
theorem op_eq' {X : Cx} (hu : X.A.units + 64 < cLine) : OpR X (compareOp .Eq) (fun x y H Q => rEq x y H Q ∨ rEqD X.K x y H Q) := op_eq.or (op_eqD hu)
theorem op_ne' {X : Cx} (hu : X.A.units + 64 < cLine) : OpR X (compareOp .NotEq) (fun x y H Q => rNe x y H Q ∨ rNeD X.K x y H Q) := op_ne.or (op_neD hu)
/-! ### ints -/
def gI (g : Int → Int → Val) : Val → Val → Hv → R Val
  | .int a, .int b, h => .ok (g a b) h
  | _, _, _ => .bad
def gIc (C : Int → Int → Prop) [∀ a b, Decidable (C a b)] (g : Int → Int → Val) : Val → Val → Hv → R Val
  | .int a, .int b, h => if C a b then .ok (g a b) h else .bad
  | _, _, _ => .bad
theorem os_cmp (g : Int → Int → Bool) : OpS K cm W (rI0 fun i j => .bl (g i j)) (gI fun a b => .bl (g a b)) := by
  intro S v1 v2 w1 w2 Q M r1 r2 p
  cases v1 with
  | int a =>
    cases v2 with
    | int b => cases r1; cases r2; exact ⟨a, b, rfl, rfl, p.here M _ rfl⟩
    | _ => exact p.elim
  | _ => cases v2 <;> exact p.elim
theorem os_int (g : Int → Int → Int) : OpS K cm W (rI0 fun i j => .int (g i j)) (gI fun a b => .int (g a b)) := by
  intro S v1 v2 w1 w2 Q M r1 r2 p
  cases v1 with
  | int a =>
    cases v2 with
    | int b => cases r1; cases r2; exact ⟨a, b, rfl, rfl, p.here M _ rfl⟩
    | _ => exact p.elim
  | _ => cases v2 <;> exact p.elim
theorem os_intC (C C' : Int → Int → Prop) [∀ a b, Decidable (C' a b)] (g : Int → Int → Int) (k : ∀ a b, C' a b → C a b) : OpS K cm W (rI C fun i j => .int (g i j)) (gIc C' fun a b => .int (g a b)) := by
  intro S v1 v2 w1 w2 Q M r1 r2 p
  cases v1 with
  | int a =>
    cases v2 with
    | int b =>
      cases r1; cases r2
      obtain ⟨c, p⟩ := Post.ite p
      exact ⟨a, b, rfl, rfl, k a b c, p.here M _ rfl⟩
    | _ => exact p.elim
  | _ => cases v2 <;> exact p.elim
def gSub := gI fun a b => .int (a - b)
def gLt := gI fun a b => .bl (decide (a < b))
def gLe := gI fun a b => .bl (decide (a ≤ b))
def gGt := gI fun a b => .bl (decide (b < a))
def gGe := gI fun a b => .bl (decide (b ≤ a))
def gAnd := gI fun a b => .int (Builtin.bitAnd a b)
def gOr := gI fun a b => .int (Builtin.bitOr a b)
def gXor := gI fun a b => .int (Builtin.bitXor a b)
/-- a % b, 0 < b; a // b, 0 < b and not too great; a * b, one of both not too great (or both) -/
def gMod := gIc (fun _ b => 0 < b) fun a b => .int (a % b)
def gDiv := gIc (fun _ b => 0 < b ∧ b < 1000000000000) fun a b => .int (a / b)
def gMul := gIc (fun a b => (-18446744073709551616 < b ∧ b < 18446744073709551616) ∨ (-18446744073709551616 < a ∧ a < 18446744073709551616)) fun a b => .int (a * b)
def gShl := gIc (fun a b => 0 ≤ b ∧ b ≤ 1000000 ∧ a.natAbs < 18446744073709551616) fun a b => .int (a * 2 ^ b.toNat)
def gShr := gIc (fun _ b => 0 ≤ b) fun a b => .int (a / 2 ^ b.toNat)
theorem os_sub : OpS K cm W (rI0 fun i j => .int (i - j)) gSub := os_int _
theorem os_lt : OpS K cm W (rI0 fun i j => .bl (decide (i < j))) gLt := os_cmp _
theorem os_le : OpS K cm W (rI0 fun i j => .bl (decide (i ≤ j))) gLe := os_cmp _
theorem os_gt : OpS K cm W (rI0 fun i j => .bl (decide (j < i))) gGt := os_cmp _
theorem os_ge : OpS K cm W (rI0 fun i j => .bl (decide (j ≤ i))) gGe := os_cmp _
theorem os_and : OpS K cm W (rI0 fun i j => .int (Builtin.bitAnd i j)) gAnd := os_int _
theorem os_or : OpS K cm W (rI0 fun i j => .int (Builtin.bitOr i j)) gOr := os_int _
theorem os_xor : OpS K cm W (rI0 fun i j => .int (Builtin.bitXor i j)) gXor := os_int _
theorem os_mod : OpS K cm W (rI (fun _ j => 0 < j) fun i j => .int (i % j)) gMod := os_intC _ _ _ fun _ _ h => h
theorem os_div : OpS K cm W (rI CDivW fun i j => .int (i / j)) gDiv := os_intC _ _ _ fun a b h => wide_div (b := 40) h.1 (by omega) (by decide) (by decide)
theorem os_mul : OpS K cm W (rI CMul fun i j => .int (i * j)) gMul := os_intC _ _ _ fun a b h => by unfold CMul; omega
theorem os_shl : OpS K cm W (rI CPow fun i j => .int (i * 2 ^ j.toNat)) gShl := os_intC _ _ _ fun a b h => ⟨h.1, h.2.1, by have := h.2.2; omega⟩
theorem os_shr : OpS K cm W (rI (fun _ j => 0 ≤ j) fun i j => .int (i / 2 ^ j.toNat)) gShr := os_intC _ _ _ fun _ _ h => h
def gNeg : Val → Hv → R Val
  | .int a, h => .ok (.int (-a)) h
  | _, _ => .bad
theorem us_neg : UnS K cm W (rU fun i => .int (-i)) gNeg := by
  intro S v w Q M r p
  cases v with
  | int a => cases r; exact ⟨a, rfl, p.here M _ rfl⟩
  | _ => exact p.elim
/-! a + b: ints, texts, lists, tuples -/
def gAdd : Val → Val → Hv → R Val
  | .int a, .int b, h => .ok (.int (a + b)) h
  | .str a, .str b, h => if a.length + b.length ≤ 16777216 then .ok (.str (a ++ b)) h else .bad
  | .fl a, .fl b, h => if a.length + b.length ≤ 16777216 then .ok (.fl (a ++ b)) h else .bad
  | .tup (a :: as), .tup b, h => if (a :: as).length + b.length ≤ 16777216 then .ok (.tup ((a :: as) ++ b)) h else .bad
  | _, _, _ => .bad
def rAdd' (K : PySem.W.Frag) : R2 := fun x y H Q => rI0 (fun i j => .int (i + j)) x y H Q ∨ (∃ i j, x = .str i ∧ y = .str j ∧ i.length + j.length ≤ sizeLine ∧ Q (.str (i ++ j)) H) ∨ rCat x y H Q ∨ rCatT K x y H Q
theorem op_add' {X : Cx} : OpR X (binaryOp .Add) (rAdd' X.K) := op_add.or (op_add_str.or (op_cat.or op_catT))
theorem str_len {x : Str} {a : List Nat} (h : x.cps.toList = a) : x.length = a.length := by
  rw [ofL_of h]; rfl
theorem str_app {x y : Str} {a b : List Nat} (h : x.cps.toList = a) (h' : y.cps.toList = b) : (x ++ y).cps.toList = a ++ b := by
  rw [ofL_of h, ofL_of h']
  show ((Str.ofL a).cps ++ (Str.ofL b).cps).toList = a ++ b
  simp [Str.ofL]
theorem os_add : OpS K cm W (rAdd' K) gAdd := by
  intro S v1 v2 w1 w2 Q M r1 r2 p
  cases v1 with
  | int a =>
    cases v2 with
    | int b => cases r1; cases r2; exact .inl ⟨a, b, rfl, rfl, p.here M _ rfl⟩
    | _ => exact p.elim
  | str a =>
    cases v2 with
    | str b =>
      obtain ⟨x, rfl, hx⟩ := r1
      obtain ⟨y, rfl, hy⟩ := r2
      obtain ⟨c, p⟩ := Post.ite p
      exact .inr (.inl ⟨x, y, rfl, rfl, by rw [str_len hx, str_len hy, sizeLine_eq]; exact c, p.here M _ ⟨_, rfl, str_app hx hy⟩⟩)
    | _ => exact p.elim
  | fl a =>
    cases v2 with
    | fl b =>
      obtain ⟨x, xs, rfl, hx, rx⟩ := r1
      obtain ⟨y, ys, rfl, hy, ry⟩ := r2
      obtain ⟨c, p⟩ := Post.ite p
      exact .inr (.inr (.inl ⟨x, y, xs, ys, rfl, rfl, hx.1, hy.1, by rw [← rx.length, ← ry.length, sizeLine_eq]; exact c, fun q hq => p.laid M hq _ _ (vrel_fl M hq (rx.append ry))⟩))
    | _ => exact p.elim
  | tup a =>
    cases a with
    | nil => cases v2 <;> exact p.elim
    | cons a0 as =>
      cases v2 with
      | tup b =>
        obtain ⟨x, xs, rfl, hx, rx⟩ := r1
        obtain ⟨y, ys, rfl, hy, ry⟩ := r2
        obtain ⟨c, p⟩ := Post.ite p
        refine .inr (.inr (.inr ⟨x, y, xs, ys, rfl, rfl, hx.sq, hy.sq, fun z => ?_, by rw [← rx.length, ← ry.length, sizeLine_eq]; exact c, fun z => ?_, fun _ q hq => p.laid M hq _ _ (vrel_tup M hq (rx.append ry))⟩))
        · have := rx.length; rw [z] at this; simp at this
        · subst z
          have hb : b = [] := by have := ry.length; simpa using this
          subst hb
          rw [List.append_nil] at p
          exact p.here M _ ⟨x, xs, rfl, hx, rx⟩
      | _ => exact p.elim
  | _ => cases v2 <;> exact p.elim
/-! is None -/
def Val.isNon : Val → Bool
  | .non => true
  | _ => false
def gIsN : Val → Val → Hv → R Val
  | v, .non, h => .ok (.bl v.isNon) h
  | _, _, _ => .bad
def gNotN : Val → Val → Hv → R Val
  | v, .non, h => .ok (.bl (!v.isNon)) h
  | _, _, _ => .bad
theorem non_dec {v : Val} {w : V} (r : VRel K S v w) : v.isNon = decide (w = .non) := by
  cases v with
  | non => cases r; rfl
  | bl b => cases r; rfl
  | int b => cases r; rfl
  | str b => obtain ⟨x, rfl, _⟩ := r; rfl
  | ref b => obtain ⟨x, rfl, _⟩ := r; rfl
  | tup b => obtain ⟨x, _, rfl, _⟩ := r; rfl
  | fl b => obtain ⟨x, _, rfl, _⟩ := r; rfl
  | kl b => obtain ⟨x, _, rfl, _⟩ := r; rfl
theorem os_isN : OpS K cm W (fun x y H Q => y = .non ∧ Q (.bl (decide (x = .non))) H) gIsN := by
  intro S v1 v2 w1 w2 Q M r1 r2 p
  cases v2 with
  | non => cases r2; exact ⟨rfl, p.bl M (non_dec r1)⟩
  | _ => cases v1 <;> exact p.elim
theorem os_notN : OpS K cm W (fun x y H Q => y = .non ∧ Q (.bl (!decide (x = .non))) H) gNotN := by
  intro S v1 v2 w1 w2 Q M r1 r2 p
  cases v2 with
  | non => cases r2; exact ⟨rfl, p.bl M (by rw [non_dec r1])⟩
  | _ => cases v1 <;> exact p.elim
/-! in, not in: flat items of a list or tuple -/
def Val.flat : Val → Bool
  | .non => true
  | .bl _ => true
  | .int _ => true
  | .str _ => true
  | _ => false
theorem flat_of {v : Val} {w : V} (r : VRel K S v w) (f : v.flat = true) : flatV w = true := by
  cases v with
  | non => cases r; rfl
  | bl b => cases r; rfl
  | int b => cases r; rfl
  | str b => obtain ⟨x, rfl, _⟩ := r; rfl
  | _ => cases f
theorem eqV_of {v u : Val} {w x : V} (r : VRel K S v w) (q : VRel K S u x) (f : v.flat = true) (g : u.flat = true) : eqV w x = Val.eq v u := by
  cases v with
  | non => cases r; cases u with
    | non => cases q; rfl
    | bl b => cases q; rfl
    | int b => cases q; rfl
    | str b => obtain ⟨x, rfl, _⟩ := q; rfl
    | _ => cases g
  | bl a => cases r; cases u with
    | non => cases q; rfl
    | bl b => cases q; rfl
    | int b => cases q; rfl
    | str b => obtain ⟨x, rfl, _⟩ := q; rfl
    | _ => cases g
  | int a => cases r; cases u with
    | non => cases q; rfl
    | bl b => cases q; rfl
    | int b => cases q; rfl
    | str b => obtain ⟨x, rfl, _⟩ := q; rfl
    | _ => cases g
  | str a => obtain ⟨y, rfl, hy⟩ := r; cases u with
    | non => cases q; rfl
    | bl b => cases q; rfl
    | int b => cases q; rfl
    | str b => obtain ⟨x, rfl, hx⟩ := q; rw [ofL_of hy, ofL_of hx]; simp only [eqV, Val.eq, str_beq]
    | _ => cases g
  | _ => cases f
theorem flats_of : ∀ {vs : List Val} {ws : List V}, VRels K S vs ws → vs.all Val.flat = true → ws.all flatV = true
  | [], _, h, _ => by cases h; rfl
  | v :: vs, _, ⟨w, r, h1, h2, h3⟩, f => by
    subst h1
    simp only [List.all_cons, Bool.and_eq_true] at f ⊢
    exact ⟨flat_of h2 f.1, flats_of h3 f.2⟩
theorem any_of {v : Val} {w : V} (r : VRel K S v w) (f : v.flat = true) : ∀ {vs : List Val} {ws : List V}, VRels K S vs ws → vs.all Val.flat = true → inV w ws = vs.any fun u => Val.eq u v
  | [], _, h, _ => by cases h; rfl
  | u :: vs, _, ⟨x, rr, h1, h2, h3⟩, g => by
    subst h1
    simp only [List.all_cons, Bool.and_eq_true] at g
    have ih := any_of r f h3 g.2
    unfold inV at ih ⊢
    rw [List.any_cons, List.any_cons, ih, eqV_of h2 r g.1 f]
/-- items -/
def Val.items : Val → Hv → Option (List Val)
  | .tup vs, _ => some vs
  | .fl vs, _ => some vs
  | .kl vs, _ => some vs
  | .ref i, h => match h[i]? with
    | some (.lst vs) => some vs
    | _ => none
  | _, _ => none
/-- items of a list, of a tuple, by the heap -/
theorem items_sq {v : Val} {w : V} {vs : List Val} (M : MR K cm S) (r : VRel K S v w) (h : v.items S.h = some vs) : ∃ p ws, w = .ref p ∧ (SqL K S.H p ws ∨ SqT K S.H p ws) ∧ VRels K S vs ws := by
  cases v with
  | tup us => cases h; obtain ⟨p, ws, rfl, h1, h2⟩ := r; exact ⟨p, ws, rfl, .inr h1.sq, h2⟩
  | fl us => cases h; obtain ⟨p, ws, rfl, h1, h2⟩ := r; exact ⟨p, ws, rfl, .inl h1.sq, h2⟩
  | kl us => cases h; obtain ⟨p, ws, rfl, h1, h2⟩ := r; exact ⟨p, ws, rfl, .inl h1.sq, h2⟩
  | ref i =>
    obtain ⟨p, rfl, hm⟩ := r
    unfold Val.items at h
    cases hc : S.h[i]? with
    | none => simp only [hc] at h; cases h
    | some c =>
      cases c with
      | dead => simp only [hc] at h; cases h
      | dK _ _ => simp only [hc] at h; cases h
      | dT _ _ => simp only [hc] at h; cases h
      | ins _ _ _ => simp only [hc] at h; cases h
      | lst us =>
        simp only [hc] at h
        cases h
        obtain ⟨ws, h1, h2⟩ := M.obj i _ p hc hm
        exact ⟨p, ws, rfl, .inl (SqL.of h1), h2⟩
  | _ => cases h
def gInB (neg : Bool) : Val → Val → Hv → R Val := fun x y h => match y.items h with
  | some vs => if x.flat = true ∧ vs.all Val.flat = true then .ok (.bl (if neg then !(vs.any fun u => Val.eq u x) else vs.any fun u => Val.eq u x)) h else .bad
  | none => .bad
def gIn := gInB false
def gNotIn := gInB true
theorem os_in (neg : Bool) : OpS K cm W (rIn K neg) (gInB neg) := by
  intro S v1 v2 w1 w2 Q M r1 r2 p
  unfold gInB at p
  cases e : v2.items S.h with
  | none => simp only [e] at p; exact p.elim
  | some vs =>
    simp only [e] at p
    obtain ⟨⟨f, g⟩, p⟩ := Post.ite p
    obtain ⟨q, ws, rfl, h1, h2⟩ := items_sq M r2 e
    exact ⟨q, ws, rfl, h1, flat_of r1 f, flats_of h2 g, p.bl M (by rw [any_of r1 f h2 g])⟩
end
end Sx

set_option Elab.async false
set_option linter.all false
set_option maxRecDepth 100000
set_option maxHeartbeats 2000000
/-! SxCalls: truth, places, slices, built-in functions and methods. -/
namespace Sx
open PySem PySem.Spec L2
open PyProof.Rows hiding St
/-! ### truth -/
def truB : Val → Hv → Option Bool
  | .non, _ => some false
  | .bl b, _ => some b
  | .int i, _ => some (!decide (i = 0))
  | .str x, _ => if x.length ≤ 16777216 then some (!x.isEmpty) else none
  | .tup vs, _ => some (!vs.isEmpty)
  | .fl vs, _ => some (!vs.isEmpty)
  | .kl vs, _ => some (!vs.isEmpty)
  | .ref i, h => match h[i]? with
    | some (.lst vs) => some (!vs.isEmpty)
    | _ => none
def sTru (a : SE) : ST := fun sv h => (a sv h).bind fun v h1 => match truB v h1 with
  | some b => .ok b h1
  | none => .bad
section
variable {X : Cx} {cm : Nat → Addr} {W : XW} {pos : Pos} {a b c e : Expr} {es : List Expr} {fa fb fc : SE} {fs : SA}
theorem tru_of {S : Sn} {v : Val} {w : V} {k : Bool} (M : MR X.K cm S) (r : VRel X.K S v w) (h : truB v S.h = some k) : TruV X.K w S.H k := by
  have emp : ∀ {vs : List Val} {ws : List V}, VRels X.K S vs ws → (!vs.isEmpty) = !ws.isEmpty := fun {vs ws} r => by
    cases vs with
    | nil => cases r; rfl
    | cons v vs => obtain ⟨w, r', e, _, _⟩ := r; subst e; rfl
  cases v with
  | non => cases r; cases h; rfl
  | bl b => cases r; cases h; rfl
  | int i =>
    cases r; cases h
    show (!decide (i = 0)) = (i != 0)
    by_cases e : i = 0
    · subst e; rfl
    · rw [decide_eq_false e]; simp [bne, e]
  | str x =>
    obtain ⟨y, rfl, hy⟩ := r
    have h : (if x.length ≤ 16777216 then some (!x.isEmpty) else none) = some k := h
    by_cases hl : x.length ≤ 16777216
    · rw [if_pos hl] at h
      cases h
      refine ⟨by rw [str_len hy, sizeLine_eq]; exact hl, ?_⟩
      rw [str_len hy]
      cases x with
      | nil => rfl
      | cons c cs =>
        show true = (((c :: cs).length : Int) != 0)
        have : ((c :: cs).length : Int) ≠ 0 := by simp only [List.length_cons]; omega
        have e : (((c :: cs).length : Int) == 0) = false := by rw [beq_eq_false_iff_ne]; exact this
        rw [bne, e]; rfl
    · rw [if_neg hl] at h; cases h
  | tup vs => cases h; obtain ⟨p, ws, rfl, h1, h2⟩ := r; exact .inr (.inl ⟨ws, h1.sq, emp h2⟩)
  | fl vs => cases h; obtain ⟨p, ws, rfl, h1, h2⟩ := r; exact .inl ⟨ws, h1.sq, emp h2⟩
  | kl vs => cases h; obtain ⟨p, ws, rfl, h1, h2⟩ := r; exact .inl ⟨ws, h1.sq, emp h2⟩
  | ref i =>
    obtain ⟨p, rfl, hm⟩ := r
    unfold truB at h
    cases hc : S.h[i]? with
    | none => simp only [hc] at h; cases h
    | some c =>
      cases c with
      | dead => simp only [hc] at h; cases h
      | dK _ _ => simp only [hc] at h; cases h
      | dT _ _ => simp only [hc] at h; cases h
      | ins _ _ _ => simp only [hc] at h; cases h
      | lst us =>
        simp only [hc] at h
        cases h
        obtain ⟨ws, h1, h2⟩ := M.obj i _ p hc hm
        exact .inl ⟨ws, SqL.of h1, emp h2⟩
theorem jt_tru (ha : JE X cm W a fa) (he : ∀ whole, isTrue a X.env whole = (do let v ← whole; standAt a.pos; holding [v] (truthy v)) := by intro _; rfl) : JT X cm W a (sTru fa) := PT.imp (pt_truth ha he) fun σ H Q ⟨S, sv, e, M, r, p⟩ => by
  subst e
  refine ⟨S, sv, rfl, M, r, Post.bind p fun v S1 e1 M1 p1 w r1 => ?_⟩
  cases hk : truB v S1.h with
  | none => simp only [hk] at p1; exact p1.elim
  | some k => simp only [hk] at p1; exact ⟨k, tru_of M1 r1 hk, p1.here M1⟩
/-! ### places -/
def ixv {α : Type} (xs : List α) (i : Int) : Option α := if 0 ≤ i then xs[i.toNat]? else if 0 ≤ i + xs.length then xs[(i + xs.length).toNat]? else none
theorem ixv_at {α : Type} (xs : List α) (i : Int) : atI xs i = ixv xs i := by
  unfold atI ixN ixv
  by_cases h : 0 ≤ i
  · rw [if_pos h, if_pos h]
    by_cases h2 : i < xs.length
    · rw [if_pos h2]; rfl
    · rw [if_neg h2, List.getElem?_eq_none (by omega)]; rfl
  · rw [if_neg h, if_neg h]
    by_cases h2 : -(xs.length : Int) ≤ i
    · rw [if_pos h2, if_pos (by omega)]; rfl
    · rw [if_neg h2, if_neg (by omega)]; rfl
def gIx : Val → Val → Hv → R Val := fun x y h => match x, y with
  | .str s, .int i => if s.length ≤ 16777216 then (match ixv s i with
    | some c => .ok (.str [c]) h
    | none => .bad) else .bad
  | x, .int i => match x.items h with
    | some vs => (match ixv vs i with
      | some v => .ok v h
      | none => .bad)
    | none => .bad
  | _, _ => .bad
theorem rel_at {S : Sn} {vs : List Val} {ws : List V} {i : Int} {v : Val} (r : VRels X.K S vs ws) (h : ixv vs i = some v) : ∃ w, atI ws i = some w ∧ VRel X.K S v w := by
  rw [ixv_at]
  unfold ixv at h ⊢
  rw [← r.length]
  split at h
  · rw [if_pos (by assumption)]; exact r.get h
  · rw [if_neg (by assumption)]
    split at h
    · rw [if_pos (by assumption)]; exact r.get h
    · cases h
theorem os_ix : OpS X.K cm W (rIx X.K) gIx := by
  intro S v1 v2 w1 w2 Q M r1 r2 p
  cases v2 with
  | int i =>
    cases r2
    have gen : (match v1.items S.h with
        | some vs => (match ixv vs i with
          | some v => R.ok v S.h
          | none => .bad)
        | none => .bad) = gIx v1 (.int i) S.h → rIx X.K w1 (.int i) S.H Q := fun e => by
      rw [← e] at p
      cases hi : v1.items S.h with
      | none => simp only [hi] at p; exact p.elim
      | some vs =>
        simp only [hi] at p
        cases hv : ixv vs i with
        | none => simp only [hv] at p; exact p.elim
        | some v =>
          simp only [hv] at p
          obtain ⟨q, ws, rfl, h1, h2⟩ := items_sq M r1 hi
          obtain ⟨w, h3, h4⟩ := rel_at h2 hv
          rcases h1 with h1 | h1
          · exact .inl ⟨q, ws, i, w, rfl, rfl, h1, h3, p.here M _ h4⟩
          · exact .inr (.inl ⟨q, ws, i, w, rfl, rfl, h1, h3, p.here M _ h4⟩)
    cases v1 with
    | str x =>
      obtain ⟨y, rfl, hy⟩ := r1
      unfold gIx at p
      obtain ⟨hl, p⟩ := Post.ite p
      cases hv : ixv x i with
      | none => simp only [hv] at p; exact p.elim
      | some c =>
        simp only [hv] at p
        exact .inr (.inr ⟨y, i, c, rfl, rfl, by rw [str_len hy, sizeLine_eq]; exact hl, by rw [ixv_at, hy]; exact hv, p.here M _ ⟨_, rfl, rfl⟩⟩)
    | _ => exact gen rfl
  | _ => cases v1 <;> exact p.elim
theorem je_ix (ha : JE X cm W a fa) (hb : JE X cm W b fb) (hs : PlainIx b := by intro _ _; rfl) : JE X cm W (.Subscript a b pos) (sBin gIx fa fb) := PE.imp (pe_ix ix_seq ha hb hs) fun σ H Q ⟨S, sv, e, M, r, p⟩ => by
  subst e
  refine ⟨S, sv, rfl, M, r, Post.bind p fun x S1 e1 M1 p1 w1 r1 => ?_⟩
  refine ⟨S1, sv, rfl, M1, r.ext e1, Post.bind p1 fun y S2 e2 M2 p2 w2 r2 => ?_⟩
  exact os_ix S2 x y w1 w2 Q M2 (VRel.ext e2 x r1) r2 p2
/-! ### slices -/
abbrev SO := Env → Hv → R (Option Int)
def sNo : SO := fun _ h => .ok none h
def sPart (a : SE) : SO := fun sv h => (a sv h).bind fun v h1 => match v with
  | .int i => .ok (some i) h1
  | _ => .bad
def tO (K : PySem.W.Frag) (cm : Nat → Addr) (W : XW) (f : SO) : TO := fun σ H Q => ∃ S sv, S.H = H ∧ MR K cm S ∧ SRel K S sv σ ∧ Post K cm W S (f sv S.h) fun o S' => Q o S'.H
theorem PO.imp {X : Cx} {o : Option Expr} {t t' : TO} (h : PO X o t) (k : ∀ σ H Q, t' σ H Q → t σ H Q) : PO X o t' := ⟨fun pins s σ H Q I q => h.run pins s σ H Q I (k _ _ _ q)⟩
abbrev JO (X : Cx) (cm : Nat → Addr) (W : XW) (e : Option Expr) (f : SO) : Prop := PO X e (tO X.K cm W f)
theorem jo_none : JO X cm W none sNo := PO.imp po_none fun σ H Q ⟨S, sv, e, M, r, p⟩ => by
  subst e
  exact p.here M
theorem jo_some (ha : JE X cm W a fa) : JO X cm W (some a) (sPart fa) := PO.imp (po_some ha) fun σ H Q ⟨S, sv, e, M, r, p⟩ => by
  subst e
  refine ⟨S, sv, rfl, M, r, Post.bind p fun v S1 e1 M1 p1 w r1 => ?_⟩
  cases v with
  | int i => cases r1; exact ⟨i, rfl, p1.here M1⟩
  | _ => exact p1.elim
/-- where a bound of a slice lies -/
def slB (n d : Nat) : Option Int → Nat
  | none => d
  | some i => if i < 0 then (max (i + n) 0).toNat else min i.toNat n
theorem slB_eq (n d : Nat) (o : Option Int) : HT.sIx n d o = slB n d o := by
  cases o with
  | none => rfl
  | some v =>
    have h := HT.clip_eq v n d
    have : (HT.sIx n d (some v) : Int) = (slB n d (some v) : Nat) := by
      rw [← h]
      unfold slB
      simp only
      split <;> rename_i hv
      · have : (0 : Int) ≤ max (v + n) 0 := by omega
        omega
      · have h1 : min v (n : Int) = ((min v.toNat n : Nat) : Int) := by omega
        exact h1
    omega
def cutL {α : Type} (xs : List α) (lo hi : Option Int) : List α := (xs.drop (slB xs.length 0 lo)).take (slB xs.length xs.length hi - slB xs.length 0 lo)
def gSl : Val → Option Int → Option Int → Hv → R Val
  | .fl vs, lo, hi, h => .ok (.fl (cutL vs lo hi)) h
  | .kl vs, lo, hi, h => .ok (.fl (cutL vs lo hi)) h
  | .tup vs, lo, hi, h => if slB vs.length 0 lo = 0 ∧ slB vs.length vs.length hi = vs.length then .bad else .ok (.tup (cutL vs lo hi)) h
  | .str x, lo, hi, h => if x.length ≤ 16777216 then .ok (.str (cutL x lo hi)) h else .bad
  | .ref i, lo, hi, h => match h[i]? with
    | some (.lst vs) => .ok (.fl (cutL vs lo hi)) h
    | _ => .bad
  | _, _, _, _ => .bad
def sSl (a : SE) (l u : SO) : SE := fun sv h => (a sv h).bind fun v h1 => (l sv h1).bind fun lo h2 => (u sv h2).bind fun hi h3 => gSl v lo hi h3
theorem cut_rel {S : Sn} {vs : List Val} {ws : List V} {lo hi : Option Int} (r : VRels X.K S vs ws) : VRels X.K S (cutL vs lo hi) (cutV ws lo hi) := by
  unfold cutL cutV
  rw [← r.length, slB_eq, slB_eq]
  exact (r.drop _).take _
theorem sl_all : SlR X (fun x lo hi H Q => rSlL X.K x lo hi H Q ∨ rSlT X.K x lo hi H Q ∨ rSlS x lo hi H Q) := sl_list.or (sl_tup.or sl_str)
theorem je_sl {l u : Option Expr} {fl fu : SO} {p2 : Pos} (ha : JE X cm W a fa) (hl : JO X cm W l fl) (hu : JO X cm W u fu) : JE X cm W (.Subscript a (.Slice l u none p2) pos) (sSl fa fl fu) := PE.imp (pe_slice sl_all ha hl hu) fun σ H Q ⟨S, sv, e, M, r, p⟩ => by
  subst e
  refine ⟨S, sv, rfl, M, r, Post.bind p fun v S1 e1 M1 p1 w r1 => ?_⟩
  refine ⟨S1, sv, rfl, M1, r.ext e1, Post.bind p1 fun lo S2 e2 M2 p2 => ?_⟩
  refine ⟨S2, sv, rfl, M2, (r.ext e1).ext e2, Post.bind p2 fun hi S3 e3 M3 p3 => ?_⟩
  have r3 := VRel.ext (e2.trans e3) v r1
  cases v with
  | fl vs =>
    obtain ⟨q, ws, rfl, h1, h2⟩ := r3
    exact .inl ⟨q, ws, rfl, h1.sq, fun d hd => p3.laid M3 hd _ _ (vrel_fl M3 hd (cut_rel h2))⟩
  | kl vs =>
    obtain ⟨q, ws, rfl, h1, h2⟩ := r3
    exact .inl ⟨q, ws, rfl, h1.sq, fun d hd => p3.laid M3 hd _ _ (vrel_fl M3 hd (cut_rel h2))⟩
  | tup vs =>
    obtain ⟨q, ws, rfl, h1, h2⟩ := r3
    have p3 : Post X.K cm W S3 (if slB vs.length 0 lo = 0 ∧ slB vs.length vs.length hi = vs.length then R.bad else R.ok (Val.tup (cutL vs lo hi)) S3.h) _ := p3
    by_cases hw : slB vs.length 0 lo = 0 ∧ slB vs.length vs.length hi = vs.length
    · rw [if_pos hw] at p3; exact p3.elim
    · rw [if_neg hw] at p3
      exact .inr (.inl ⟨q, ws, rfl, h1.sq, by rw [← h2.length, slB_eq, slB_eq]; exact hw, fun d hd => p3.laid M3 hd _ _ (vrel_tup M3 hd (cut_rel h2))⟩)
  | str x =>
    obtain ⟨y, rfl, hy⟩ := r3
    obtain ⟨hl, p3⟩ := Post.ite p3
    refine .inr (.inr ⟨y, rfl, by rw [str_len hy, sizeLine_eq]; exact hl, p3.here M3 _ ⟨_, rfl, ?_⟩⟩)
    unfold cutS cutL
    rw [str_len hy, slB_eq, slB_eq, hy]
  | ref i =>
    obtain ⟨q, rfl, hm⟩ := r3
    unfold gSl at p3
    cases hc : S3.h[i]? with
    | none => simp only [hc] at p3; exact p3.elim
    | some c =>
      cases c with
      | dead => simp only [hc] at p3; exact p3.elim
      | dK _ _ => simp only [hc] at p3; exact p3.elim
      | dT _ _ => simp only [hc] at p3; exact p3.elim
      | ins _ _ _ => simp only [hc] at p3; exact p3.elim
      | lst vs =>
        simp only [hc] at p3
        obtain ⟨ws, h1, h2⟩ := M3.obj i _ q hc hm
        exact .inl ⟨q, ws, rfl, SqL.of h1, fun d hd => p3.laid M3 hd _ _ (vrel_fl M3 hd (cut_rel h2))⟩
  | _ => exact p3.elim
/-! ### built-in functions by name -/
theorem je_callB {x : Str} {p : Pos} {id : String} {r : List V → Hp → VK → Prop} {g : List Val → Hv → R Val} (hc : CallR X (.builtin id) r) (hs : CaS X.K cm W r g) (hg : Gl X x) (hm : X.mg x = none) (hv : bootBuiltins x = some (.builtin id)) (ha : JA X cm W (e :: es) fs) (hn : x ≠ "__name__" := by decide) (hdb : (x == ("__debug__" : Str)) = false := by decide)
    (he : starEach (e :: es) X.env = (false, eval e X.env) :: starEach es X.env := by rfl) (hpl : (backTo pos (starEach es X.env)).any (·.1) = false := by rfl) : JE X cm W (.Call (.Name x p) (e :: es) [] pos) (sCall g fs) := PE.imp (pe_callB hc hg hm hv ha hn hdb he hpl) fun σ H Q ⟨S, sv, e, M, r, p⟩ => by
  subst e
  exact ⟨S, sv, rfl, M, r, Post.bind p fun vs S1 e1 M1 p1 ws r1 => hs S1 vs ws Q M1 r1 p1⟩
theorem je_callTy {x : Str} {p : Pos} {T : String} {r : List V → Hp → VK → Prop} {g : List Val → Hv → R Val} (hc : CallR X (.type T) r) (hs : CaS X.K cm W r g) (hg : Gl X x) (hm : X.mg x = none) (hv : bootBuiltins x = some (.type T)) (ha : JA X cm W (e :: es) fs) (hn : x ≠ "__name__" := by decide) (hdb : (x == ("__debug__" : Str)) = false := by decide)
    (he : starEach (e :: es) X.env = (false, eval e X.env) :: starEach es X.env := by rfl) (hpl : (backTo pos (starEach es X.env)).any (·.1) = false := by rfl) : JE X cm W (.Call (.Name x p) (e :: es) [] pos) (sCall g fs) := PE.imp (pe_callTy hc hg hm hv ha hn hdb he hpl) fun σ H Q ⟨S, sv, e, M, r, p⟩ => by
  subst e
  exact ⟨S, sv, rfl, M, r, Post.bind p fun vs S1 e1 M1 p1 ws r1 => hs S1 vs ws Q M1 r1 p1⟩
theorem rels1 {K : PySem.W.Frag} {S : Sn} {v : Val} {ws : List V} (r : VRels K S [v] ws) : ∃ w, ws = [w] ∧ VRel K S v w := by
  obtain ⟨w, r', e, h1, h2⟩ := r
  cases h2
  exact ⟨w, e, h1⟩
theorem rels2 {K : PySem.W.Frag} {S : Sn} {v u : Val} {ws : List V} (r : VRels K S [v, u] ws) : ∃ w x, ws = [w, x] ∧ VRel K S v w ∧ VRel K S u x := by
  obtain ⟨w, r', e, h1, h2⟩ := r
  obtain ⟨x, rfl, h3⟩ := rels1 h2
  exact ⟨w, x, e, h1, h3⟩
/-- of one, of two values -/
def c1 (g : Val → Hv → R Val) : List Val → Hv → R Val := fun vs h => match vs with
  | v :: [] => g v h
  | _ => .bad
def c2 (g : Val → Val → Hv → R Val) : List Val → Hv → R Val := fun vs h => match vs with
  | v :: u :: [] => g v u h
  | _ => .bad
theorem cs_1 {r : List V → Hp → VK → Prop} {g : Val → Hv → R Val} (k : ∀ (S : Sn) (v : Val) (w : V) (Q : VK), MR X.K cm S → VRel X.K S v w → Post X.K cm W S (g v S.h) (fun v S' => ∀ w, VRel X.K S' v w → Q w S'.H) → r [w] S.H Q) : CaS X.K cm W r (c1 g) := by
  intro S vs ws Q M r p
  cases vs with
  | nil => exact p.elim
  | cons v vs =>
    cases vs with
    | nil => obtain ⟨w, rfl, h⟩ := rels1 r; exact k S v w Q M h p
    | cons u us => exact p.elim
theorem cs_2 {r : List V → Hp → VK → Prop} {g : Val → Val → Hv → R Val} (k : ∀ (S : Sn) (v u : Val) (w x : V) (Q : VK), MR X.K cm S → VRel X.K S v w → VRel X.K S u x → Post X.K cm W S (g v u S.h) (fun v S' => ∀ w, VRel X.K S' v w → Q w S'.H) → r [w, x] S.H Q) : CaS X.K cm W r (c2 g) := by
  intro S vs ws Q M r p
  cases vs with
  | nil => exact p.elim
  | cons v vs =>
    cases vs with
    | nil => exact p.elim
    | cons u us =>
      cases us with
      | nil => obtain ⟨w, x, rfl, h1, h2⟩ := rels2 r; exact k S v u w x Q M h1 h2 p
      | cons y ys => exact p.elim
def gItems (g : List Val → Hv → R Val) : Val → Hv → R Val := fun v h => match v.items h with
  | some vs => g vs h
  | none => .bad
theorem Post.items {S : Sn} {v : Val} {w : V} {g : List Val → Hv → R Val} {P : Val → Sn → Prop} (M : MR X.K cm S) (r : VRel X.K S v w) (p : Post X.K cm W S (gItems g v S.h) P) : ∃ vs q ws, w = .ref q ∧ (SqL X.K S.H q ws ∨ SqT X.K S.H q ws) ∧ VRels X.K S vs ws ∧ Post X.K cm W S (g vs S.h) P := by
  unfold gItems at p
  cases hi : v.items S.h with
  | none => simp only [hi] at p; exact p.elim
  | some us =>
    simp only [hi] at p
    obtain ⟨q, xs, h0, h1, h2⟩ := items_sq M r hi
    exact ⟨us, q, xs, h0, h1, h2, p⟩
def gLen : Val → Hv → R Val := fun v h => match v with
  | .str x => if x.length ≤ 16777216 then .ok (.int x.length) h else .bad
  | v => gItems (fun vs h => .ok (.int vs.length) h) v h
def cLen := c1 gLen
theorem cs_len : CaS X.K cm W (fun xs H Q => ∃ x n, xs = [x] ∧ LenV X.K x H n ∧ Q (.int n) H) cLen := cs_1 fun S v w Q M r p => by
  have gen : gItems (fun vs h => R.ok (.int vs.length) h) v S.h = gLen v S.h → ∃ x n, [w] = [x] ∧ LenV X.K x S.H n ∧ Q (.int n) S.H := fun e => by
    rw [← e] at p
    obtain ⟨us, q, xs, rfl, h1, h2, p⟩ := Post.items M r p
    refine ⟨_, us.length, rfl, ?_, p.here M _ rfl⟩
    rcases h1 with h1 | h1
    · exact .inl ⟨xs, h1, h2.length⟩
    · exact .inr ⟨xs, h1, h2.length⟩
  cases v with
  | str x =>
    obtain ⟨y, rfl, hy⟩ := r
    obtain ⟨hl, p⟩ := Post.ite p
    exact ⟨_, x.length, rfl, ⟨by rw [str_len hy, sizeLine_eq]; exact hl, (str_len hy).symm⟩, p.here M _ rfl⟩
  | _ => exact gen rfl
def cInt := c1 fun v h => match v with
  | .int i => .ok (.int i) h
  | .bl b => .ok (.int (if b = true then 1 else 0)) h
  | _ => .bad
theorem cs_int : CaS X.K cm W (fun xs H Q => (∃ i, xs = [.int i] ∧ Q (.int i) H) ∨ ∃ k, xs = [.bl k] ∧ Q (.int (if k then 1 else 0)) H) cInt := cs_1 fun S v w Q M r p => by
  cases v with
  | int i => cases r; exact .inl ⟨i, rfl, p.here M _ rfl⟩
  | bl i => cases r; exact .inr ⟨i, rfl, p.here M _ rfl⟩
  | _ => exact p.elim
def cAbs := c1 fun v h => match v with
  | .int i => .ok (.int (if i < 0 then -i else i)) h
  | _ => .bad
theorem cs_abs : CaS X.K cm W (fun xs H Q => ∃ i, xs = [.int i] ∧ Q (.int (if i < 0 then -i else i)) H) cAbs := cs_1 fun S v w Q M r p => by
  cases v with
  | int i => cases r; exact ⟨i, rfl, p.here M _ rfl⟩
  | _ => exact p.elim
theorem cs_i2 (g : Int → Int → Int) : CaS X.K cm W (fun xs H Q => ∃ i j, xs = [.int i, .int j] ∧ Q (.int (g i j)) H) (c2 (gI fun i j => .int (g i j))) := cs_2 fun S v u w x Q M r q p => by
  cases v with
  | int i =>
    cases u with
    | int j => cases r; cases q; exact ⟨i, j, rfl, p.here M _ rfl⟩
    | _ => exact p.elim
  | _ => cases u <;> exact p.elim
def cMax := c2 (gI fun i j => .int (if j > i then j else i))
def cMin := c2 (gI fun i j => .int (if j < i then j else i))
theorem cs_max : CaS X.K cm W (fun xs H Q => ∃ i j, xs = [.int i, .int j] ∧ Q (.int (if j > i then j else i)) H) cMax := cs_i2 fun i j => if j > i then j else i
theorem cs_min : CaS X.K cm W (fun xs H Q => ∃ i j, xs = [.int i, .int j] ∧ Q (.int (if j < i then j else i)) H) cMin := cs_i2 fun i j => if j < i then j else i
/-- list(x), not changed again; list(x), to be changed -/
def cList := c1 (gItems fun vs h => .ok (.fl vs) h)
def cListN := c1 (gItems fun vs h => .ok (.ref h.length) (h ++ [.lst vs]))
theorem cs_list : CaS X.K cm W (fun xs H Q => ∃ p ys, xs = [.ref p] ∧ (SqL X.K H p ys ∨ SqT X.K H p ys) ∧ ∀ l, H l = none → Q (.ref l) (upd H l (.lst ys))) cList := cs_1 fun S v w Q M r p => by
  obtain ⟨us, q, xs, rfl, h1, h2, p⟩ := Post.items M r p
  exact ⟨q, xs, rfl, h1, fun l hl => p.laid M hl _ _ (vrel_fl M hl h2)⟩
theorem cs_listN : CaS X.K cm W (fun xs H Q => ∃ p ys, xs = [.ref p] ∧ (SqL X.K H p ys ∨ SqT X.K H p ys) ∧ ∀ l, H l = none → Q (.ref l) (upd H l (.lst ys))) cListN := cs_1 fun S v w Q M r p => by
  obtain ⟨us, q, xs, rfl, h1, h2, p⟩ := Post.items M r p
  refine ⟨q, xs, rfl, h1, fun l hl => ?_⟩
  obtain ⟨z, y⟩ := p.newd M hl h2
  exact z _ y
/-- tuple(x) -/
def gTup' : Val → Hv → R Val := fun v h => match v with
  | .tup vs => .ok (.tup vs) h
  | v => gItems (fun vs h => .ok (.tup vs) h) v h
def cTup := c1 gTup'
theorem cs_tup : CaS X.K cm W (fun xs H Q => ∃ p ys, xs = [.ref p] ∧ ((SqL X.K H p ys ∧ ∀ l, H l = none → Q (.ref l) (upd H l (.tup ys))) ∨ (SqT X.K H p ys ∧ Q (.ref p) H))) cTup := cs_1 fun S v w Q M r p => by
  have gen : (∀ us, v ≠ .tup us) → gItems (fun vs h => R.ok (.tup vs) h) v S.h = gTup' v S.h → ∃ p ys, [w] = [.ref p] ∧ ((SqL X.K S.H p ys ∧ ∀ l, S.H l = none → Q (.ref l) (upd S.H l (.tup ys))) ∨ (SqT X.K S.H p ys ∧ Q (.ref p) S.H)) := fun nt e => by
    rw [← e] at p
    unfold gItems at p
    cases hi : v.items S.h with
    | none => simp only [hi] at p; exact p.elim
    | some us =>
      simp only [hi] at p
      have hL : ∃ q xs, w = .ref q ∧ SqL X.K S.H q xs ∧ VRels X.K S us xs := by
        cases v with
        | tup vs => exact absurd rfl (nt vs)
        | fl vs => cases hi; obtain ⟨q, xs, e, h1, h2⟩ := r; exact ⟨q, xs, e, h1.sq, h2⟩
        | kl vs => cases hi; obtain ⟨q, xs, e, h1, h2⟩ := r; exact ⟨q, xs, e, h1.sq, h2⟩
        | ref i =>
          obtain ⟨q, rfl, hm⟩ := r
          unfold Val.items at hi
          cases hc : S.h[i]? with
          | none => simp only [hc] at hi; cases hi
          | some c =>
            cases c with
            | dead => simp only [hc] at hi; cases hi
            | dK _ _ => simp only [hc] at hi; cases hi
            | dT _ _ => simp only [hc] at hi; cases hi
            | ins _ _ _ => simp only [hc] at hi; cases hi
            | lst vs =>
              simp only [hc] at hi
              cases hi
              obtain ⟨xs, h1, h2⟩ := M.obj i _ q hc hm
              exact ⟨q, xs, rfl, SqL.of h1, h2⟩
        | _ => cases hi
      obtain ⟨q, xs, rfl, h1, h2⟩ := hL
      exact ⟨q, xs, rfl, .inl ⟨h1, fun l hl => p.laid M hl _ _ (vrel_tup M hl h2)⟩⟩
  cases v with
  | tup vs =>
    obtain ⟨q, xs, rfl, h1, h2⟩ := r
    exact ⟨q, xs, rfl, .inr ⟨h1.sq, p.here M _ ⟨q, xs, rfl, h1, h2⟩⟩⟩
  | _ => exact gen (fun _ z => nomatch z) rfl
/-- all(xs), any(xs), xs a list of True and False -/
def Val.bl? : Val → Option Bool
  | .bl b => some b
  | _ => none
def blsOf : List Val → Option (List Bool)
  | [] => some []
  | v :: vs => v.bl?.bind fun b => (blsOf vs).map (b :: ·)
theorem bls_rel {K : PySem.W.Frag} {S : Sn} : ∀ {vs : List Val} {ws : List V} {bs : List Bool}, VRels K S vs ws → blsOf vs = some bs → ws = bs.map V.bl
  | [], _, _, r, h => by cases r; cases h; rfl
  | v :: vs, _, _, ⟨w, r', e, h1, h2⟩, h => by
    subst e
    unfold blsOf at h
    cases v with
    | bl b =>
      cases h1
      cases hb : blsOf vs with
      | none => simp [Val.bl?, hb] at h
      | some bs =>
        simp only [Val.bl?, hb, Option.bind_some, Option.map_some, Option.some.injEq] at h
        subst h
        rw [bls_rel h2 hb]; rfl
    | _ => simp [Val.bl?] at h
def gBls (g : List Bool → Bool) : Val → Hv → R Val := fun v h => match v with
  | .fl us => (match blsOf us with
    | some bs => .ok (.bl (g bs)) h
    | none => .bad)
  | _ => .bad
def cAll := c1 (gBls fun bs => bs.all id)
def cAny := c1 (gBls fun bs => bs.any id)
theorem cs_bls (g : List Bool → Bool) : CaS X.K cm W (fun vs H Q => ∃ (a : Addr) (bs : List Bool), vs = [V.ref a] ∧ SqL X.K H a (bs.map V.bl) ∧ Q (.bl (g bs)) H) (c1 (gBls g)) := cs_1 fun S v w Q M r p => by
  cases v with
  | fl us =>
    obtain ⟨q, xs, rfl, h1, h2⟩ := r
    unfold gBls at p
    cases hb : blsOf us with
    | none => simp only [hb] at p; exact p.elim
    | some bs =>
      simp only [hb] at p
      have := bls_rel h2 hb
      subst this
      exact ⟨q, bs, rfl, h1.sq, p.here M _ rfl⟩
  | _ => exact p.elim
theorem cs_all : CaS X.K cm W (rAll X.K) cAll := cs_bls _
theorem cs_any : CaS X.K cm W (rAny X.K) cAny := cs_bls _
/-! ### isinstance(x, T), T a built-in type -/
def Val.kind : Val → Hv → Option Nat
  | .non, _ => some 0
  | .bl _, _ => some 1
  | .int _, _ => some 2
  | .str _, _ => some 3
  | .tup _, _ => some 4
  | .fl _, _ => some 5
  | .kl _, _ => some 5
  | .ref i, h => match h[i]? with
    | some (.lst _) => some 5
    | _ => none
def kname : Nat → String
  | 0 => "NoneType"
  | 1 => "bool"
  | 2 => "int"
  | 3 => "str"
  | 4 => "tuple"
  | 5 => "list"
  | _ => "dict"
def gIsi (tb : Nat → Bool) : Val → Hv → R Val := fun v h => match v.kind h with
  | some k => .ok (.bl (tb k)) h
  | none => .bad
theorem tyx_of {S : Sn} {v : Val} {w : V} {k : Nat} (M : MR X.K cm S) (r : VRel X.K S v w) (h : v.kind S.h = some k) : TyX X.K S.H w (.type (kname k)) := by
  cases v with
  | non => cases r; cases h; exact .base .non
  | bl b => cases r; cases h; exact .base (.bl b)
  | int b => cases r; cases h; exact .base (.int b)
  | str b => obtain ⟨y, rfl, _⟩ := r; cases h; exact .base (.str y)
  | tup vs =>
    obtain ⟨p, ws, rfl, h1, _⟩ := r
    cases h
    rcases h1 with h1 | ⟨o, its, n, h1, h2, _⟩
    · exact .base (.tup h1.1)
    · exact .kTuple h1 h2
  | fl vs => obtain ⟨p, ws, rfl, h1, _⟩ := r; cases h; exact .base (.lst h1.1)
  | kl vs =>
    obtain ⟨p, ws, rfl, h1, _⟩ := r
    cases h
    rcases h1 with ⟨h1 | ⟨o, h1⟩, _⟩ | ⟨o, its, n, h1, h2, _⟩
    · exact .base (.lst h1)
    · exact .base (.frz h1)
    · exact .kList h1 h2
  | ref i =>
    obtain ⟨p, rfl, hm⟩ := r
    unfold Val.kind at h
    cases hc : S.h[i]? with
    | none => simp only [hc] at h; cases h
    | some c =>
      cases c with
      | dead => simp only [hc] at h; cases h
      | dK _ _ => simp only [hc] at h; cases h
      | dT _ _ => simp only [hc] at h; cases h
      | ins _ _ _ => simp only [hc] at h; cases h
      | lst us =>
        simp only [hc] at h
        cases h
        obtain ⟨ws, h1, _⟩ := M.obj i _ p hc hm
        exact .base (.lst h1)
theorem je_isi {x y : Str} {p p2 : Pos} {T : String} {tb : Nat → Bool} (hk : ∀ k, k < 6 → kitB (kname k) T = some (tb k)) (hg : Gl X x) (hm : X.mg x = none) (hv : bootBuiltins x = some (.builtin "isinstance")) (hgT : Gl X y) (hmT : X.mg y = none) (hvT : bootBuiltins y = some (.type T)) (ha : JE X cm W a fa)
    (hn : x ≠ "__name__" := by decide) (hdb : (x == ("__debug__" : Str)) = false := by decide) (hn2 : y ≠ "__name__" := by decide) (hdb2 : (y == ("__debug__" : Str)) = false := by decide)
    (he : starEach [a, .Name y p2] X.env = (false, eval a X.env) :: starEach [.Name y p2] X.env := by rfl) (he2 : starEach [.Name y p2] X.env = (false, eval (.Name y p2) X.env) :: starEach [] X.env := by rfl) (hpl : (backTo pos (starEach [.Name y p2] X.env)).any (·.1) = false := by rfl) :
    JE X cm W (.Call (.Name x p) [a, .Name y p2] [] pos) (sUn (gIsi tb) fa) := PE.imp (pe_callB call_isi hg hm hv (pa_cons ha (pa_cons (pe_bltn (v := .ty T) hgT hmT hvT rfl hn2 hdb2) pa_nil he2) he) hn hdb he hpl) fun σ H Q ⟨S, sv, e, M, r, p⟩ => by
  subst e
  refine ⟨S, sv, rfl, M, r, Post.bind p fun v S1 e1 M1 p1 w r1 => ?_⟩
  unfold gIsi at p1
  cases hkd : v.kind S1.h with
  | none => simp only [hkd] at p1; exact p1.elim
  | some k =>
    simp only [hkd] at p1
    have hlt : k < 6 := by
      cases v with
      | ref i =>
        unfold Val.kind at hkd
        cases hc : S1.h[i]? with
        | none => simp only [hc] at hkd; cases hkd
        | some c =>
          cases c with
          | dead => simp only [hc] at hkd; cases hkd
          | dK _ _ => simp only [hc] at hkd; cases hkd
          | dT _ _ => simp only [hc] at hkd; cases hkd
          | ins _ _ _ => simp only [hc] at hkd; cases hkd
          | lst us => simp only [hc] at hkd; cases hkd; decide
      | _ => cases hkd; decide
    exact ⟨w, .ty T, .type (kname k), .type T, tb k, rfl, .ty T, tyx_of M1 r1 hkd, kit_ty (hk k hlt), p1.here M1 _ rfl⟩
end
end Sx

set_option Elab.async false
set_option linter.all false
set_option maxRecDepth 100000
set_option maxHeartbeats 2000000
/-! SxMeth: methods of lists, stores at places, x op= e. -/
namespace Sx
open PySem PySem.Spec L2
open PyProof.Rows hiding St
section
variable {X : Cx} {cm : Nat → Addr} {W : XW} {pos : Pos} {a b c e o : Expr} {es : List Expr} {fa fb fc fo : SE} {fs : SA}
/-- a method's semantics: the object, the arguments -/
def MeS (K : PySem.W.Frag) (cm : Nat → Addr) (W : XW) (r : V → List V → Hp → VK → Prop) (g : Val → List Val → Hv → R Val) : Prop := ∀ (S : Sn) (v : Val) (vs : List Val) (w : V) (ws : List V) (Q : VK), MR K cm S → VRel K S v w → VRels K S vs ws → Post K cm W S (g v vs S.h) (fun v S' => ∀ w, VRel K S' v w → Q w S'.H) → r w ws S.H Q
/-- a list of any kind -/
def Val.isL : Val → Hv → Bool
  | .fl _, _ => true
  | .kl _, _ => true
  | .ref i, h => match h[i]? with
    | some (.lst _) => true
    | _ => false
  | _, _ => false
def sMeth0 (g : Val → List Val → Hv → R Val) (o : SE) : SE := fun sv h => (o sv h).bind fun v h1 => if v.isL h1 = true then g v [] h1 else .bad
def sMeth (g : Val → List Val → Hv → R Val) (o : SE) (fs : SA) : SE := fun sv h => (o sv h).bind fun v h1 => if v.isL h1 = true then (fs sv h1).bind fun vs h2 => g v vs h2 else .bad
theorem tyv_of {S : Sn} {v : Val} {w : V} (M : MR X.K cm S) (r : VRel X.K S v w) (h : v.isL S.h = true) : tyV X.K "list" w S.H := by
  cases v with
  | fl vs => obtain ⟨p, ws, rfl, h1, _⟩ := r; exact .inl ⟨rfl, ws, h1.sq⟩
  | kl vs => obtain ⟨p, ws, rfl, h1, _⟩ := r; exact .inl ⟨rfl, ws, h1.sq⟩
  | ref i =>
    obtain ⟨p, rfl, hm⟩ := r
    unfold Val.isL at h
    cases hc : S.h[i]? with
    | none => simp only [hc] at h; cases h
    | some c =>
      cases c with
      | dead => simp only [hc] at h; cases h
      | dK _ _ => simp only [hc] at h; cases h
      | dT _ _ => simp only [hc] at h; cases h
      | ins _ _ _ => simp only [hc] at h; cases h
      | lst vs =>
        obtain ⟨ws, h1, _⟩ := M.obj i _ p hc hm
        exact .inl ⟨rfl, ws, SqL.of h1⟩
  | _ => cases h
theorem je_meth0 {name : Str} {apos cpos : Pos} {id : String} {r : V → List V → Hp → VK → Prop} {g : Val → List Val → Hv → R Val} (slot : Slot "list" name id) (hty : typeOf (.builtin id) = pure (.type "method_descriptor")) (hm : MtR X id r) (hs : MeS X.K cm W r g) (ho : JE X cm W o fo)
    (hbase : attributeBase o name X.env (eval o X.env) = eval o X.env := by rfl) (hline : (apos.endLine == cpos.line) = true := by rfl) : JE X cm W (.Call (.Attribute o name apos) [] [] cpos) (sMeth0 g fo) :=
  PE.imp (pe_bm0 PySem.F.plainAttrs_list slot hty hm ho hbase hline) fun σ H Q ⟨S, sv, e, M, r, p⟩ => by
    subst e
    refine ⟨S, sv, rfl, M, r, Post.bind p fun v S1 e1 M1 p1 w r1 => ?_⟩
    obtain ⟨hl, p1⟩ := Post.ite p1
    exact ⟨tyv_of M1 r1 hl, hs S1 v [] w [] Q M1 r1 VRels.nil p1⟩
theorem je_meth {name : Str} {apos cpos : Pos} {id : String} {r : V → List V → Hp → VK → Prop} {g : Val → List Val → Hv → R Val} (slot : Slot "list" name id) (hty : typeOf (.builtin id) = pure (.type "method_descriptor")) (hm : MtR X id r) (hs : MeS X.K cm W r g) (ho : JE X cm W o fo) (ha : JA X cm W (e :: es) fs)
    (hbase : attributeBase o name X.env (eval o X.env) = eval o X.env := by rfl)
    (hfew : ((backTo cpos (starEach (e :: es) X.env)).all (fun x => !x.1) && (backToKw cpos (keywordEach [] X.env)).all (fun x => x.1.isSome)
      && decide ((e :: es).length + ([] : List Keyword).length + (if ([] : List Keyword).isEmpty then 0 else 1) < 30)) = true := by rfl)
    (hline : (apos.endLine == cpos.line) = true := by rfl) (hst : starEach (e :: es) X.env = (false, eval e X.env) :: starEach es X.env := by rfl) (hplain : (backTo cpos (starEach es X.env)).any (·.1) = false := by rfl) : JE X cm W (.Call (.Attribute o name apos) (e :: es) [] cpos) (sMeth g fo fs) :=
  PE.imp (pe_bm PySem.F.plainAttrs_list slot hty hm ho ha hbase hfew hline hst hplain) fun σ H Q ⟨S, sv, e, M, r, p⟩ => by
    subst e
    refine ⟨S, sv, rfl, M, r, Post.bind p fun v S1 e1 M1 p1 w r1 => ?_⟩
    obtain ⟨hl, p1⟩ := Post.ite p1
    refine ⟨tyv_of M1 r1 hl, S1, sv, rfl, M1, r.ext e1, Post.bind p1 fun vs S2 e2 M2 p2 ws r2 => hs S2 v vs w ws Q M2 (VRel.ext e2 v r1) r2 p2⟩
/-- a cell changed -/
theorem Post.put {S : Sn} {α : Type} {u : α} {i : Nat} {p : Addr} {vs us : List Val} {xs : List V} {P : α → Sn → Prop} (h : Post X.K cm W S (.ok u (S.h.set i (.lst us))) P) (M : MR X.K cm S) (hm : S.m[i]? = some p) (hc : S.h[i]? = some (.lst vs)) (r : VRels X.K S us xs) : P u (S.put i p (.lst xs) (.lst us)) := by
  have e := ext_put (o := .lst xs) (c := .lst us) M hm hc (fun z => nomatch z)
  exact h _ rfl e (mr_put M hm hc (fun z => nomatch z) ⟨xs, upd_same, VRels.ext e us r⟩)
def onCell (g : List Val → Hv → R (Val × List Val)) : Val → Hv → R Val := fun v h => match v with
  | .ref i => (match h[i]? with
    | some (.lst vs) => (g vs h).bind fun p h1 => .ok p.1 (h1.set i (.lst p.2))
    | _ => .bad)
  | _ => .bad
def lApp (y : Val) : List Val → Hv → R (Val × List Val) := fun vs h => if vs.length < 16777216 then .ok (.non, vs ++ [y]) h else .bad
def mAppend : Val → List Val → Hv → R Val := fun v us h => match us with
  | y :: [] => onCell (lApp y) v h
  | _ => .bad
theorem Post.cell {S : Sn} {v : Val} {w : V} {g : List Val → Hv → R (Val × List Val)} {P : Val → Sn → Prop} (M : MR X.K cm S) (r : VRel X.K S v w) (p : Post X.K cm W S (onCell g v S.h) P) : ∃ i q vs ws, v = .ref i ∧ w = .ref q ∧ S.m[i]? = some q ∧ S.h[i]? = some (.lst vs) ∧ S.H q = some (.lst ws) ∧ VRels X.K S vs ws ∧
    Post X.K cm W S ((g vs S.h).bind fun p h1 => .ok p.1 (h1.set i (.lst p.2))) P := by
  cases v with
  | ref i =>
    obtain ⟨q, rfl, hm⟩ := r
    unfold onCell at p
    cases hc : S.h[i]? with
    | none => simp only [hc] at p; exact p.elim
    | some c =>
      cases c with
      | dead => simp only [hc] at p; exact p.elim
      | dK _ _ => simp only [hc] at p; exact p.elim
      | dT _ _ => simp only [hc] at p; exact p.elim
      | ins _ _ _ => simp only [hc] at p; exact p.elim
      | lst vs =>
        simp only [hc] at p
        obtain ⟨ws, h1, h2⟩ := M.obj i _ q hc hm
        exact ⟨i, q, vs, ws, rfl, rfl, hm, hc, h1, h2, p⟩
  | _ => exact p.elim
theorem ms_append : MeS X.K cm W rAppend mAppend := by
  intro S v vs w ws Q M r rs p
  cases vs with
  | nil => exact p.elim
  | cons y ys =>
    cases ys with
    | cons _ _ => exact p.elim
    | nil =>
      obtain ⟨x, rfl, rx⟩ := rels1 rs
      obtain ⟨i, q, us, xs, rfl, rfl, hm, hc, hH, ru, p⟩ := Post.cell (g := lApp y) M r p
      unfold lApp at p
      by_cases hl : us.length < 16777216
      · rw [if_pos hl] at p
        exact ⟨q, xs, x, rfl, rfl, hH, by rw [← ru.length, sizeLine_eq]; exact hl, Post.put p M hm hc (ru.append (VRels.cons rx VRels.nil)) _ rfl⟩
      · rw [if_neg hl] at p; exact p.elim
theorem mt_append' : MtR X "list.append" rAppend := mt_append
theorem VRels.dropLast {K : PySem.W.Frag} {S : Sn} {vs : List Val} {ws : List V} (r : VRels K S vs ws) : VRels K S vs.dropLast ws.dropLast := by
  rw [List.dropLast_eq_take, List.dropLast_eq_take, r.length]
  exact r.take _
def lPop : List Val → Hv → R (Val × List Val) := fun vs h => match vs.getLast? with
    | some y => .ok (y, vs.dropLast) h
    | none => .bad
def lPopAt (k : Int) : List Val → Hv → R (Val × List Val) := fun vs h => if -4611686018427387904 ≤ k ∧ k < 4611686018427387904 then (match ixv vs k with
    | some y => .ok (y, vs.eraseIdx (if 0 ≤ k then k.toNat else (k + vs.length).toNat)) h
    | none => .bad) else .bad
def mPop : Val → List Val → Hv → R Val := fun v us h => match us with
  | [] => onCell lPop v h
  | i :: [] => (match i with
    | .int k => onCell (lPopAt k) v h
    | _ => .bad)
  | _ => .bad
def rPop' : V → List V → Hp → VK → Prop := fun x xs H Q => rPop x xs H Q ∨ rPopAt x xs H Q
theorem mt_pop' : MtR X "list.pop" rPop' := MtR.or (r := rPop) (r' := rPopAt) mt_pop mt_popAt
theorem ms_pop : MeS X.K cm W rPop' mPop := by
  intro S v vs w ws Q M r rs p
  cases vs with
  | nil =>
    cases rs
    obtain ⟨i, q, us, xs, rfl, rfl, hm, hc, hH, ru, p⟩ := Post.cell (g := lPop) M r p
    unfold lPop at p
    cases hy : us.getLast? with
    | none => simp only [hy] at p; exact p.elim
    | some y =>
      simp only [hy] at p
      have hy' : us[us.length - 1]? = some y := by rw [← List.getLast?_eq_getElem?]; exact hy
      obtain ⟨x, hx, rx⟩ := ru.get hy'
      rw [ru.length] at hx
      have e := ext_put (o := .lst xs.dropLast) (c := .lst us.dropLast) M hm hc (fun z => nomatch z)
      exact .inl ⟨q, xs, x, rfl, rfl, hH, hx, Post.put p M hm hc ru.dropLast _ (VRel.ext e y rx)⟩
  | cons i0 rest =>
    cases rest with
    | cons _ _ => exact p.elim
    | nil =>
      cases i0 with
      | int k =>
        obtain ⟨x0, rfl, rx0⟩ := rels1 rs
        cases rx0
        obtain ⟨i, q, us, xs, rfl, rfl, hm, hc, hH, ru, p⟩ := Post.cell (g := lPopAt k) M r p
        unfold lPopAt at p
        by_cases hk : -4611686018427387904 ≤ k ∧ k < 4611686018427387904
        rotate_left
        · rw [if_neg hk] at p; exact p.elim
        rw [if_pos hk] at p
        cases hy : ixv us k with
        | none => simp only [hy] at p; exact p.elim
        | some y =>
          simp only [hy] at p
          generalize hj : (if 0 ≤ k then k.toNat else (k + us.length).toNat) = j at p
          have hjy : us[j]? = some y ∧ seqIndex? k us.length = some j ∧ -(us.length : Int) ≤ k ∧ k < us.length := by
            unfold ixv at hy
            by_cases h0 : 0 ≤ k
            · rw [if_pos h0] at hy hj
              have hl := (List.getElem?_eq_some_iff.mp hy).1
              refine ⟨by rw [← hj]; exact hy, ?_, by omega, by omega⟩
              unfold seqIndex?
              simp only
              rw [if_neg (show ¬ k < 0 by omega), if_pos (by simp; omega), hj]
            · rw [if_neg h0] at hy hj
              by_cases h1 : 0 ≤ k + us.length
              · rw [if_pos h1] at hy
                refine ⟨by rw [← hj]; exact hy, ?_, by omega, by omega⟩
                unfold seqIndex?
                simp only
                rw [if_pos (show k < 0 by omega), if_pos (by simp; omega), hj]
              · rw [if_neg h1] at hy; cases hy
          obtain ⟨x, hx, rx⟩ := ru.get hjy.1
          have e := ext_put (o := .lst (xs.eraseIdx j)) (c := .lst (us.eraseIdx j)) M hm hc (fun z => nomatch z)
          exact .inr ⟨q, xs, k, j, x, rfl, rfl, hH, by omega, by omega, by rw [← ru.length]; exact hjy.2.1, hx, Post.put p M hm hc (ru.erase j) _ (VRel.ext e y rx)⟩
      | _ => exact p.elim
/-- xs.extend(ys), both lists of ours -/
def lExt (ys : List Val) : List Val → Hv → R (Val × List Val) := fun vs h => if vs.length + ys.length ≤ 16777216 then .ok (.non, vs ++ ys) h else .bad
def mExtend : Val → List Val → Hv → R Val := fun v us h => match us with
  | u :: [] => (match u with
    | .fl ys => onCell (lExt ys) v h
    | _ => .bad)
  | _ => .bad
theorem ms_extend : MeS X.K cm W rExtend mExtend := by
  intro S v vs w ws Q M r rs p
  cases vs with
  | nil => exact p.elim
  | cons u us =>
    cases us with
    | cons _ _ => exact p.elim
    | nil =>
      cases u with
      | fl ys =>
        obtain ⟨x, rfl, b, zs, rfl, hb, rz⟩ := rels1 rs
        obtain ⟨i, q, us, xs, rfl, rfl, hm, hc, hH, ru, p⟩ := Post.cell (g := lExt ys) M r p
        unfold lExt at p
        by_cases hl : us.length + ys.length ≤ 16777216
        · rw [if_pos hl] at p
          exact ⟨q, b, xs, zs, rfl, rfl, hH, hb.1, by rw [← ru.length, ← rz.length, sizeLine_eq]; exact hl, Post.put p M hm hc (ru.append rz) _ rfl⟩
        · rw [if_neg hl] at p; exact p.elim
      | _ => exact p.elim
theorem mt_extend' : MtR X "list.extend" rExtend := mt_extend
/-- xs.index(y), flat items -/
def firstAt (y : Val) : List Val → Option Nat
  | [] => none
  | v :: vs => if Val.eq v y = true then some 0 else (firstAt y vs).map (· + 1)
def gItemsL (g : List Val → Hv → R Val) : Val → Hv → R Val := fun v h => if v.isL h = true then gItems g v h else .bad
theorem Post.itemsL {S : Sn} {v : Val} {w : V} {g : List Val → Hv → R Val} {P : Val → Sn → Prop} (M : MR X.K cm S) (r : VRel X.K S v w) (p : Post X.K cm W S (gItemsL g v S.h) P) : ∃ vs q ws, w = .ref q ∧ SqL X.K S.H q ws ∧ VRels X.K S vs ws ∧ Post X.K cm W S (g vs S.h) P := by
  obtain ⟨hl, p2⟩ := Post.ite p
  clear p
  unfold gItems at p2
  cases hi : v.items S.h with
  | none => simp only [hi] at p2; exact p2.elim
  | some us =>
    simp only [hi] at p2
    cases v with
    | fl vs => cases hi; obtain ⟨q, xs, e, h1, h2⟩ := r; exact ⟨us, q, xs, e, h1.sq, h2, p2⟩
    | kl vs => cases hi; obtain ⟨q, xs, e, h1, h2⟩ := r; exact ⟨us, q, xs, e, h1.sq, h2, p2⟩
    | ref i =>
      obtain ⟨q, rfl, hm⟩ := r
      unfold Val.items at hi
      cases hc : S.h[i]? with
      | none => simp only [hc] at hi; cases hi
      | some c =>
        cases c with
        | dead => simp only [hc] at hi; cases hi
        | dK _ _ => simp only [hc] at hi; cases hi
        | dT _ _ => simp only [hc] at hi; cases hi
        | ins _ _ _ => simp only [hc] at hi; cases hi
        | lst vs =>
          simp only [hc] at hi
          cases hi
          obtain ⟨xs, h1, h2⟩ := M.obj i _ q hc hm
          exact ⟨us, q, xs, rfl, SqL.of h1, h2, p2⟩
    | _ => cases hl
def gIndex (y : Val) : List Val → Hv → R Val := fun vs h => if y.flat = true ∧ vs.all Val.flat = true then (match firstAt y vs with
    | some j => .ok (.int j) h
    | none => .bad) else .bad
def mIndex : Val → List Val → Hv → R Val := fun v us h => match us with
  | y :: [] => gItemsL (gIndex y) v h
  | _ => .bad
theorem first_of {S : Sn} {y : Val} {wy : V} (ry : VRel X.K S y wy) (fy : y.flat = true) : ∀ {vs : List Val} {ws : List V} {j : Nat}, VRels X.K S vs ws → vs.all Val.flat = true → firstAt y vs = some j → ∃ z, ws[j]? = some z ∧ eqV z wy = true ∧ ∀ (m : Nat) (z' : V), m < j → ws[m]? = some z' → eqV z' wy = false
  | [], _, _, _, _, h => by cases h
  | v :: vs, _, j, ⟨w, r, e, h1, h2⟩, f, h => by
    subst e
    simp only [List.all_cons, Bool.and_eq_true] at f
    have ev := eqV_of h1 ry f.1 fy
    unfold firstAt at h
    by_cases hv : Val.eq v y = true
    · rw [if_pos hv] at h
      cases h
      exact ⟨w, rfl, by rw [ev]; exact hv, fun m z' hm => absurd hm (Nat.not_lt_zero m)⟩
    · rw [if_neg hv] at h
      cases hf : firstAt y vs with
      | none => rw [hf] at h; cases h
      | some i =>
        rw [hf] at h
        cases h
        obtain ⟨z, q1, q2, q3⟩ := first_of ry fy h2 f.2 hf
        refine ⟨z, q1, q2, fun m z' hm hz => ?_⟩
        cases m with
        | zero => cases hz; rw [ev]; simpa using hv
        | succ m => exact q3 m z' (Nat.lt_of_succ_lt_succ hm) hz
theorem ms_index : MeS X.K cm W (rIndex X.K) mIndex := by
  intro S v vs w ws Q M r rs p
  cases vs with
  | nil => exact p.elim
  | cons y us =>
    cases us with
    | cons _ _ => exact p.elim
    | nil =>
      obtain ⟨x, rfl, rx⟩ := rels1 rs
      obtain ⟨us, q, xs, rfl, h1, h2, p⟩ := Post.itemsL (g := gIndex y) M r p
      unfold gIndex at p
      obtain ⟨⟨f1, f2⟩, p⟩ := Post.ite p
      cases hj : firstAt y us with
      | none => simp only [hj] at p; exact p.elim
      | some j =>
        simp only [hj] at p
        obtain ⟨z, q1, q2, q3⟩ := first_of rx f1 h2 f2 hj
        exact ⟨q, xs, x, j, z, rfl, rfl, h1, flat_of rx f1, flats_of h2 f2, q1, q2, q3, p.here M _ rfl⟩
/-! ### stores at places -/
def cSet : Val → Val → Val → Hv → R Val := fun o i v h => match i with
  | .int k => onCell (fun vs h => match ixv vs k with
    | some _ => .ok (.non, vs.set (if 0 ≤ k then k.toNat else (k + vs.length).toNat) v) h
    | none => .bad) o h
  | _ => .bad
/-- o[i] = e: e first -/
def gSub' (fo fi : SE) : SG := fun v sv h => (fo sv h).bind fun o h1 => (fi sv h1).bind fun i h2 => (cSet o i v h2).bind fun _ h3 => .ok sv h3
def lSet (k : Int) (v : Val) : List Val → Hv → R (Val × List Val) := fun vs h => match ixv vs k with
    | some _ => .ok (.non, vs.set (if 0 ≤ k then k.toNat else (k + vs.length).toNat) v) h
    | none => .bad
theorem set_cell {S : Sn} {o i v : Val} {wo wi wv : V} {P : Sn → Prop} (M : MR X.K cm S) (ro : VRel X.K S o wo) (ri : VRel X.K S i wi) (rv : VRel X.K S v wv) (p : Post X.K cm W S (cSet o i v S.h) fun _ S' => P S') : rSetL wo wi wv S.H fun H' => ∃ S', S'.H = H' ∧ Ext S S' ∧ MR X.K cm S' ∧ P S' := by
  cases i with
  | int k =>
    cases ri
    obtain ⟨j, q, us, xs, rfl, rfl, hm, hc, hH, ru, p⟩ := Post.cell (g := lSet k v) M ro p
    unfold lSet at p
    cases hy : ixv us k with
    | none => simp only [hy] at p; exact p.elim
    | some y =>
      simp only [hy] at p
      generalize hj : (if 0 ≤ k then k.toNat else (k + us.length).toNat) = n at p
      have hn : ixN xs.length k = some n := by
        rw [← ru.length]
        unfold ixv at hy
        unfold ixN
        by_cases h0 : 0 ≤ k
        · rw [if_pos h0] at hy hj ⊢
          have hl := (List.getElem?_eq_some_iff.mp hy).1
          rw [if_pos (by omega), hj]
        · rw [if_neg h0] at hy hj ⊢
          by_cases h1 : 0 ≤ k + us.length
          · rw [if_pos (by omega), hj]
          · rw [if_neg h1] at hy; cases hy
      have e := ext_put (o := .lst (xs.set n wv)) (c := .lst (us.set n v)) M hm hc (fun z => nomatch z)
      exact ⟨q, xs, k, n, rfl, rfl, hH, hn, _, rfl, e, mr_put M hm hc (fun z => nomatch z) ⟨_, upd_same, VRels.ext e _ (ru.set rv n)⟩, Post.put p M hm hc (ru.set rv n)⟩
  | _ => exact p.elim
theorem jg_sub {own : List Nat} {o i : Expr} {fo fi : SE} (ho : JE X cm W o fo) (hi : JE X cm W i fi)
    (ha : ∀ v, assign (.Subscript o i pos) X.env v = (do
      let ov ← holding [v] (eval o X.env)
      let iv ← holding [v, ov] (eval i X.env)
      standAt pos
      holding [v, ov, iv] (setItem ov iv v)
      release [v, ov, iv] []) := by intro _; rfl) : JG X cm W own (.Subscript o i pos) (gSub' fo fi) := PG.imp (pg_sub ho hi set_list ha) fun v σ H Q ⟨S, sv, u, e, M, r, ru, p⟩ => by
  subst e
  refine ⟨S, sv, rfl, M, r, Post.bind p fun ov S1 e1 M1 p1 wo ro => ?_⟩
  refine ⟨S1, sv, rfl, M1, r.ext e1, Post.bind p1 fun iv S2 e2 M2 p2 wi ri => ?_⟩
  have p3 : Post X.K cm W S2 (cSet ov iv u S2.h) fun _ S3 => ∀ σ', SRel X.K S3 sv σ' → wipe σ' own = wipe σ own → Q σ' S3.H := Post.bind p2 fun _ S3 e3 M3 q => q.here M3
  obtain ⟨q, xs, k, n, h1, h2, h3, h4, S3, h5, e3, M3, h6⟩ := set_cell M2 (VRel.ext e2 ov ro) ri (VRel.ext (e1.trans e2) u ru) p3
  refine ⟨q, xs, k, n, h1, h2, h3, h4, ?_⟩
  rw [← h5]
  exact h6 σ (r.ext (e1.trans (e2.trans e3))) rfl
/-! ### x op= e -/
theorem js_aug {i : Nat} {x : Str} {op : Operator} {ti : TIp} {g : Val → Val → Hv → R Val} {pos' : Pos} (hN : X.N.Nodup) (hi : X.N[i]? = some x) (hx : Loc X.env.scope x) (he : JE X cm W e fa) (ho : PIp X op ti) (hs : OpS X.K cm W ti g) (hf : X.fn x = true ∨ X.env.scope.names.lookup x = some .local := by first | exact .inl rfl | exact .inr rfl | assumption) :
    JS X cm W (.AugAssign (.Name x pos') op e pos) (sSet i (sBin g (sVar i) fa)) := PS.imp (ps_aug hN hi hx he ho hf) fun D σ H ⟨S, sv, e, M, r, p⟩ => by
  subst e
  unfold sSet sBin sVar at p
  cases q : sv[i]? with
  | none => simp only [q] at p; exact p.elim
  | some o =>
    cases o with
    | none => simp only [q] at p; exact p.elim
    | some v =>
      simp only [q, bind_ok] at p
      obtain ⟨w, h1, h2⟩ := r.2 i v q
      have p' : Post X.K cm W S ((fa sv S.h).bind fun u h2 => (g v u h2).bind fun y h3 => .ok (.nx (sv.set i (some y))) h3) (FlP X.K D) := by
        generalize fa sv S.h = z at p
        cases z <;> exact p
      refine ⟨w, h1, S, sv, rfl, M, r, Post.bind p' fun u S1 e1 M1 p1 x rx => ?_⟩
      exact hs S1 v u w x _ M1 (VRel.ext e1 v h2) rx (Post.bind p1 fun y S2 e2 M2 p2 z rz => p2.here M2 _ ((r.ext (e1.trans e2)).set rz i))
def rIAdd : R2 := fun x y H Q => rI0 (fun i j => .int (i + j)) x y H Q ∨ ∃ i j, x = .str i ∧ y = .str j ∧ i.length + j.length ≤ sizeLine ∧ Q (.str (i ++ j)) H
theorem pi_add : PIp X .Add rIAdd := iop_add.or iop_add_str
def gIAdd : Val → Val → Hv → R Val := fun v u h => match v, u with
  | .int a, .int b => .ok (.int (a + b)) h
  | .str a, .str b => if a.length + b.length ≤ 16777216 then .ok (.str (a ++ b)) h else .bad
  | _, _ => .bad
theorem os_iadd : OpS X.K cm W rIAdd gIAdd := by
  intro S v1 v2 w1 w2 Q M r1 r2 p
  cases v1 with
  | int a =>
    cases v2 with
    | int b => cases r1; cases r2; exact .inl ⟨a, b, rfl, rfl, p.here M _ rfl⟩
    | _ => exact p.elim
  | str a =>
    cases v2 with
    | str b =>
      obtain ⟨x, rfl, hx⟩ := r1
      obtain ⟨y, rfl, hy⟩ := r2
      obtain ⟨c, p⟩ := Post.ite p
      exact .inr ⟨x, y, rfl, rfl, by rw [str_len hx, str_len hy, sizeLine_eq]; exact c, p.here M _ ⟨_, rfl, str_app hx hy⟩⟩
    | _ => exact p.elim
  | _ => cases v2 <;> exact p.elim
end
end Sx
namespace Sx
open PySem PySem.Spec L2
open PyProof.Rows hiding St
/-! ### more walks, in texts, calls by name -/
section
variable {X : Cx} {cm : Nat → Addr} {W : XW} {pos : Pos} {a b c e o : Expr} {es : List Expr} {fa fb fc fo : SE} {fs : SA}
theorem PI.or {tg iter : Expr} {t t' : TI} (h : PI X tg iter t) (h' : PI X tg iter t') : PI X tg iter (fun σ H R => t σ H R ∨ t' σ H R) := ⟨fun pins s σ H R I q => q.elim (h.run pins s σ H R I) (h'.run pins s σ H R I)⟩
/-- over a list or a tuple -/
theorem ji_seq {tg : Expr} (ha : JE X cm W a fa) : JI X cm W tg a (iVal fa) := PI.imp (PI.or (ji_list ha) (ji_tup ha)) fun σ H Q ⟨S, sv, e, M, r, p⟩ => by
  subst e
  unfold iVal at p
  have key : (∀ h' vs, fa sv S.h ≠ .ok (.tup vs) h') ∨ (∃ h' vs, fa sv S.h = .ok (.tup vs) h') := by
    cases hz : fa sv S.h with
    | ok v h' =>
      cases v with
      | tup vs => exact .inr ⟨h', vs, rfl⟩
      | _ => exact .inl fun _ _ z => by cases z
    | _ => exact .inl fun _ _ z => by cases z
  rcases key with key | ⟨h', vs, key⟩
  · refine .inl ⟨S, sv, rfl, M, r, ?_⟩
    unfold iList'
    generalize fa sv S.h = z at p key
    cases z with
    | ok v h' =>
      cases v with
      | tup vs => exact (key h' vs rfl).elim
      | _ => exact p
    | _ => exact p
  · refine .inr ⟨S, sv, rfl, M, r, ?_⟩
    unfold iTup'
    rw [key] at p ⊢
    exact p
/-- a def as it is called by its name -/
structure Cal (P : Program) (w : World) (K : PySem.W.Frag) (mg : Str → Option Value) (base : Heap) (cm : Nat → Addr) (k : Nat) (x : Str) (n : Nat) (G : SF) : Prop where
  ex : ∃ (f : Addr) (fd : FuncData) (ps : List Str), ps.length = n ∧ FnS P w K mg base cm k f fd ps G ∧ mg x = some (.ref f) ∧ PySem.W.keepIn K (.ref f) = true ∧ Binds K fd ps []
def callF (n : Nat) (G : SF) : SF := fun us h => if us.length = n then noX (G us h) else .bad
theorem je_fn {k j n : Nat} {x : Str} {G : SF} {p : Pos} (C : Cal X.prog X.w X.K X.mg X.base cm j x n G) (hr : Room k X.A) (hj : j ≤ k) (hg : Gl X x) (ha : JA X cm W (e :: es) fs) (hdb : (x == ("__debug__" : Str)) = false := by decide)
    (he : starEach (e :: es) X.env = (false, eval e X.env) :: starEach es X.env := by rfl) (hpl : (backTo pos (starEach es X.env)).any (·.1) = false := by rfl) : JE X cm W (.Call (.Name x p) (e :: es) [] pos) (sCall (callF n G) fs) := by
  obtain ⟨f, fd, ps, hn, F, hm, hk, hb⟩ := C.ex
  subst hn
  exact je_call F (hr.mono hj) hg hm hk hb ha hdb he hpl
theorem Cal.le {P : Program} {w : World} {K : PySem.W.Frag} {mg : Str → Option Value} {base : Heap} {k n : Nat} {x : Str} {F G : SF} (h : Cal P w K mg base cm k x n F) (e : ∀ us h, G us h = .bad ∨ F us h = G us h) : Cal P w K mg base cm k x n G := by
  obtain ⟨f, fd, ps, hn, F, hm, hk, hb⟩ := h.ex
  exact ⟨f, fd, ps, hn, fn_le F e, hm, hk, hb⟩
theorem Cal.trunc {P : Program} {w : World} {K : PySem.W.Frag} {mg : Str → Option Value} {base : Heap} {k n : Nat} {x : Str} {F : SF} (h : Cal P w K mg base cm k x n F) : Cal P w K mg base cm k x n (trunc F) := by
  obtain ⟨f, fd, ps, hn, F, hm, hk, hb⟩ := h.ex
  exact ⟨f, fd, ps, hn, fn_trunc F, hm, hk, hb⟩
theorem cal_mk {P : Program} {w : World} {K : PySem.W.Frag} {mg : Str → Option Value} {base : Heap} {k : Nat} {x : Str} {st : Stmt} {f : Addr} {fd : FuncData} {ps : List Str} {G : SF} (F : Fun K x x st f fd) (hm : mg x = some (.ref f)) (hb : Binds K fd ps []) (h : FnS P w K mg base cm k f fd ps G) : Cal P w K mg base cm k x ps.length G :=
  ⟨f, fd, ps, rfl, h, hm, F.kp, hb⟩
/-- a constant of the top -/
structure KConst (K : PySem.W.Frag) (mg : Str → Option Value) (x : Str) (v : Val) : Prop where
  ex : ∃ (u : Value) (w : V), mg x = some u ∧ RelV w u ∧ ∀ S, VRel K S v w
theorem KConst.je {x : Str} {v : Val} {p : Pos} (C : KConst X.K X.mg x v) (hg : Gl X x) (hd : (x == ("__debug__" : Str)) = false := by decide) : JE X cm W (.Name x p) (sC v) := by
  obtain ⟨u, w, hm, r, hv⟩ := C.ex
  exact je_glob hg hm r hv hd
theorem kconst_int {K : PySem.W.Frag} {mg : Str → Option Value} {x : Str} {i : Int} {t : Tok} (hm : mg x = some (.int i t)) : KConst K mg x (.int i) := ⟨_, .int i, hm, ⟨t, rfl⟩, fun _ => rfl⟩
/-- a tuple of flat things of the top -/
inductive Flats : List Val → List Value → Prop
  | nil : Flats [] []
  | int {i : Int} {t : Tok} {vs : List Val} {us : List Value} (r : Flats vs us) : Flats (.int i :: vs) (.int i t :: us)
  | str {x : List Nat} {y : Str} {t : Tok} {vs : List Val} {us : List Value} (h : y.cps.toList = x) (r : Flats vs us) : Flats (.str x :: vs) (.str y t :: us)
theorem Flats.rel {K : PySem.W.Frag} {vs : List Val} {us : List Value} (h : Flats vs us) : ∃ ws, Vals ws us ∧ ∀ S, VRels K S vs ws := by
  induction h with
  | nil => exact ⟨[], .nil, fun _ => VRels.nil⟩
  | @int i t vs us r ih =>
    obtain ⟨ws, h1, h2⟩ := ih
    exact ⟨V.int i :: ws, .cons (show RelV (V.int i) (.int i t) from ⟨t, rfl⟩) h1, fun S => VRels.cons (v := .int i) (w := V.int i) rfl (h2 S)⟩
  | @str x y t vs us h r ih =>
    obtain ⟨ws, h1, h2⟩ := ih
    exact ⟨V.str y :: ws, .cons (show RelV (V.str y) (.str y t) from ⟨t, rfl⟩) h1, fun S => VRels.cons (v := .str x) (w := V.str y) ⟨y, rfl, h⟩ (h2 S)⟩
theorem kconst_tup {K : PySem.W.Frag} {mg : Str → Option Value} {x : Str} {a : Addr} {o : Obj} {vs : List Val} {us : List Value} {n : Nat} (hm : mg x = some (.ref a)) (hk : K.lookup a = some o) (hc : o.cls = .type "tuple") (hd : o.data = .seq us.toArray n) (hs : us.length ≤ sizeLine) (h : Flats vs us) : KConst K mg x (.tup vs) := by
  obtain ⟨ws, h1, h2⟩ := h.rel (K := K)
  exact ⟨_, .ref a, hm, rfl, fun S => ⟨a, ws, rfl, .inr ⟨o, _, n, hk, hc, hd, by simpa using hs, by simpa using h1⟩, h2 S⟩⟩
/-- of nothing: a def whose semantics says nothing -/
theorem cal_bad {P : Program} {w : World} {K : PySem.W.Frag} {mg : Str → Option Value} {base : Heap} {k : Nat} {x : Str} {f : Addr} {fd : FuncData} {ps : List Str} (hm : mg x = some (.ref f)) (hk : PySem.W.keepIn K (.ref f) = true) (hb : Binds K fd ps []) : Cal P w K mg base cm k x ps.length (fun _ _ => .bad) :=
  ⟨f, fd, ps, rfl, ⟨fun vs H Q E h => h.1, fun A outer s H args us vs Q E _ _ _ _ h => by obtain ⟨_, S, us, _, _, _, p⟩ := h; exact p.elim⟩, hm, hk, hb⟩
end
end Sx

set_option Elab.async false
set_option linter.all false
set_option maxRecDepth 100000
set_option maxHeartbeats 4000000
/-! SxTup: tuple * n, list * n, () + t. -/
namespace Sx
open PySem PySem.Spec L2
open PyProof.Rows hiding St
theorem tuple_mul1 (l : Addr) (items : Array Value) (n : Nat) (dd : Option Addr) (sl : Array (Option Value)) (u : Tok) (c1 : (items.isEmpty || (1 : Int) == 1) = true) :
    Meets (Builtin.«tuple.__mul__» ⟨[.ref l, .int 1 u], []⟩) (fun _ R s => s.heap.get? l = some { cls := .type "tuple", dict := dd, data := .seq items n, slots := sl } ∧ R (.ok (.ret (Value.ref l))) s) :=
  .of_wp fun prog w A R s h => by
    obtain ⟨hp, g, d, tk, os⟩ := s
    obtain ⟨hl, h⟩ := h
    have f1 := AutoSeq1.idx_int
    wp_walk using wpAny_loadPart' hl
    repeat (first
      | (refine wpAny_ite_false (decide_eq_false (by decide)) ?_; wp_walk using wpAny_loadPart' hl)
      | (refine wpAny_ite_true (decide_eq_true c1) ?_; wp_walk using wpAny_loadPart' hl))
    exact ⟨_, rfl, h⟩
theorem tuple_mul0 (l : Addr) (items : Array Value) (n : Nat) (dd : Option Addr) (sl : Array (Option Value)) (u : Tok) (c1 : (items.isEmpty || (0 : Int) == 1) = false) (c2 : (decide ((0 : Int) ≤ 0) || items.isEmpty) = true) :
    Meets (Builtin.«tuple.__mul__» ⟨[.ref l, .int 0 u], []⟩) (fun _ R s => s.heap.get? l = some { cls := .type "tuple", dict := dd, data := .seq items n, slots := sl } ∧
      R (.ok (.ret (Value.ref s.heap.objs.size))) { s with heap := s.heap.push { cls := Value.type "tuple", data := Data.seq #[] }, toks := s.toks }) :=
  .of_wp fun prog w A R s h => by
    obtain ⟨hp, g, d, tk, os⟩ := s
    obtain ⟨hl, h⟩ := h
    have f1 := AutoSeq1.idx_int
    wp_walk using wpAny_loadPart' hl
    repeat (first
      | (refine wpAny_ite_false (decide_eq_false (by decide)) ?_; wp_walk using wpAny_loadPart' hl)
      | (refine wpAny_ite_false (decide_eq_false (by rw [c1]; exact Bool.false_ne_true)) ?_; wp_walk using wpAny_loadPart' hl)
      | (refine wpAny_ite_true (decide_eq_true c2) ?_; wp_walk using wpAny_loadPart' hl))
    exact ⟨_, rfl, h⟩
/-- t * 1, t * 0 -/
def rRep01 (K : PySem.W.Frag) : R2 := fun x y H Q => ∃ l k xs, x = .ref l ∧ y = .int k ∧ SqT K H l xs ∧ xs ≠ [] ∧ ((k = 1 ∧ Q (.ref l) H) ∨ (k = 0 ∧ ∀ p, H p = none → Q (.ref p) (upd H p (.tup []))))
theorem op_rep01 {X : Cx} : OpR X (binaryOp .Mult) (rRep01 X.K) := by
  intro pins s σ H x y v u Q I rx ry h
  obtain ⟨l, k, xs, rfl, rfl, hT, hne, h⟩ := h
  cases rx
  obtain ⟨t, rfl⟩ := ry
  obtain ⟨its, r, ⟨⟨cls, dd, data, sl⟩, ho, hc, n, hd⟩, hs⟩ := I.tuple hT
  simp only at hc hd
  subst hc hd
  have hle : its.length = xs.length := r.length.symm
  have hi : its.toArray.isEmpty = false := by
    cases its with
    | nil => exact absurd (List.eq_nil_of_length_eq_zero hle.symm) hne
    | cons a b => rfl
  rcases h with ⟨rfl, q⟩ | ⟨rfl, q⟩
  · refine wpAny_binaryOp_repeat_ref (T := "tuple") (U := "int") (by decide) ⟨_, ho, rfl⟩ (fun s' => typeIs_int s' 1 t) noFill_tuple_mul F.fills_int_mul F.slot_int_rmul repeat_tuple F.slot_int_index.lookup
      (call_meets F.slot_int_rmul (typeIs_int s 1 t) F.entry_int_rmul (F.args_int_rmul_2 _ _) (int_rmul_tuple 1 t l its.toArray n dd sl)
        ⟨ho, rfl, ⟨_, ho, rfl⟩, call_meets F.slot_tuple_mul ⟨_, ho, rfl⟩ F.entry_tuple_mul (F.args_tuple_mul_2 _ _) (tuple_mul1 l its.toArray n dd sl t (by rw [hi]; rfl)) ⟨ho, ?_⟩⟩)
    exact ⟨.ref l, H, I, rfl, q⟩
  · refine wpAny_binaryOp_repeat_ref (T := "tuple") (U := "int") (by decide) ⟨_, ho, rfl⟩ (fun s' => typeIs_int s' 0 t) noFill_tuple_mul F.fills_int_mul F.slot_int_rmul repeat_tuple F.slot_int_index.lookup
      (call_meets F.slot_int_rmul (typeIs_int s 0 t) F.entry_int_rmul (F.args_int_rmul_2 _ _) (int_rmul_tuple 0 t l its.toArray n dd sl)
        ⟨ho, rfl, ⟨_, ho, rfl⟩, call_meets F.slot_tuple_mul ⟨_, ho, rfl⟩ F.entry_tuple_mul (F.args_tuple_mul_2 _ _) (tuple_mul0 l its.toArray n dd sl t (by rw [hi]; rfl) rfl) ⟨ho, ?_⟩⟩)
    refine ⟨.ref s.heap.objs.size, _, I.laid (t' := s.toks) (o := .tup []) (fun b ob q => Heap.get?_push_of_some _ q) (Nat.le_refl _) ?_, rfl, q _ (I.hok.fresh (Nat.le_refl _))⟩
    exact ⟨Nat.zero_le _, _, .nil, IsTup.new _ _⟩
section
variable {K : PySem.W.Frag} {cm : Nat → Addr} {W : XW} {S : Sn}
def repV {α : Type} (k : Int) (xs : List α) : List α := (List.replicate k.toNat xs).flatten
theorem VRels.rep {vs : List Val} {ws : List V} (r : VRels K S vs ws) : ∀ n : Nat, VRels K S (List.replicate n vs).flatten (List.replicate n ws).flatten
  | 0 => VRels.nil
  | n + 1 => by
    rw [List.replicate_succ, List.replicate_succ, List.flatten_cons, List.flatten_cons]
    exact r.append (VRels.rep r n)
def gMulX : Val → Val → Hv → R Val := fun x y h => match x, y with
  | .tup vs, .int k => if vs ≠ [] ∧ 0 ≤ k ∧ k ≤ 1000 ∧ vs.length ≤ 1000 then .ok (.tup (repV k vs)) h else .bad
  | .fl vs, .int k => if 0 ≤ k ∧ k ≤ 1000 ∧ vs.length ≤ 1000 then .ok (.fl (repV k vs)) h else .bad
  | x, y => gMul x y h
def rMulX (K : PySem.W.Frag) : R2 := fun x y H Q => rI CMul (fun i j => .int (i * j)) x y H Q ∨ rRep x y H Q ∨ rRepT K x y H Q ∨ rRep01 K x y H Q
theorem op_mulX' {X : Cx} : OpR X (binaryOp .Mult) (rMulX X.K) := op_mul.or (op_rep.or (op_repT.or op_rep01))
theorem os_mulX : OpS K cm W (rMulX K) gMulX := by
  intro S v1 v2 w1 w2 Q M r1 r2 p
  have gen : gMulX v1 v2 S.h = gMul v1 v2 S.h → rMulX K w1 w2 S.H Q := fun e => by
    rw [e] at p
    exact .inl (os_mul S v1 v2 w1 w2 Q M r1 r2 p)
  cases v1 with
  | tup vs =>
    cases v2 with
    | int k =>
      obtain ⟨x, xs, rfl, hx, rx⟩ := r1
      cases r2
      obtain ⟨⟨hn, h0, h1, h2⟩, p⟩ := Post.ite p
      have hne : xs ≠ [] := fun z => hn (by
        have := rx.length
        rw [z] at this
        exact List.eq_nil_of_length_eq_zero this)
      by_cases k1 : k = 1
      · subst k1
        have e : repV 1 vs = vs := by unfold repV; simp
        rw [e] at p
        exact .inr (.inr (.inr ⟨x, 1, xs, rfl, rfl, hx.sq, hne, .inl ⟨rfl, p.here M _ ⟨x, xs, rfl, hx, rx⟩⟩⟩))
      by_cases k0 : k = 0
      · subst k0
        have e : repV 0 vs = [] := by unfold repV; simp
        rw [e] at p
        exact .inr (.inr (.inr ⟨x, 0, xs, rfl, rfl, hx.sq, hne, .inr ⟨rfl, fun q hq => p.laid M hq _ _ (vrel_tup M hq VRels.nil)⟩⟩))
      exact .inr (.inr (.inl ⟨x, k, xs, rfl, rfl, hx.sq, hne, by omega, h1, by rw [← rx.length]; exact h2, fun q hq => p.laid M hq _ _ (vrel_tup M hq (VRels.rep rx _))⟩))
    | _ => exact gen rfl
  | fl vs =>
    cases v2 with
    | int k =>
      obtain ⟨x, xs, rfl, hx, rx⟩ := r1
      cases r2
      obtain ⟨⟨h0, h1, h2⟩, p⟩ := Post.ite p
      refine .inr (.inl ⟨x, k, xs, rfl, rfl, hx.1, by omega, by omega, ?_, fun q hq => p.laid M hq _ _ (vrel_fl M hq (VRels.rep rx _))⟩)
      rw [← rx.length, sizeLine_eq]
      have : vs.length * k.toNat ≤ 1000 * 1000 := Nat.mul_le_mul h2 (by omega)
      omega
    | _ => exact gen rfl
  | _ => exact gen rfl
/-- a + b, the empty tuple too -/
def gAddX : Val → Val → Hv → R Val := fun x y h => match x, y with
  | .tup a, .tup b => if a.length + b.length ≤ 16777216 then .ok (.tup (a ++ b)) h else .bad
  | x, y => gAdd x y h
def rAddX (K : PySem.W.Frag) : R2 := fun x y H Q => rAdd' K x y H Q ∨ rCatA K x y H Q
theorem op_addX {X : Cx} : OpR X (binaryOp .Add) (rAddX X.K) := op_add'.or op_catA
theorem os_addX : OpS K cm W (rAddX K) gAddX := by
  intro S v1 v2 w1 w2 Q M r1 r2 p
  have gen : gAddX v1 v2 S.h = gAdd v1 v2 S.h → rAddX K w1 w2 S.H Q := fun e => by
    rw [e] at p
    exact .inl (os_add S v1 v2 w1 w2 Q M r1 r2 p)
  cases v1 with
  | tup a =>
    cases v2 with
    | tup b =>
      obtain ⟨x, xs, rfl, hx, rx⟩ := r1
      obtain ⟨y, ys, rfl, hy, ry⟩ := r2
      obtain ⟨c, p⟩ := Post.ite p
      refine .inr ⟨x, y, xs, ys, rfl, rfl, hx.sq, hy.sq, by rw [← rx.length, ← ry.length, sizeLine_eq]; exact c, fun z => ?_, fun _ z => ?_, fun _ _ q hq => p.laid M hq _ _ (vrel_tup M hq (rx.append ry))⟩
      · subst z
        have ha : a = [] := List.eq_nil_of_length_eq_zero rx.length
        subst ha
        exact p.here M _ ⟨y, ys, rfl, hy, ry⟩
      · subst z
        have hb : b = [] := List.eq_nil_of_length_eq_zero ry.length
        subst hb
        rw [List.append_nil] at p
        exact p.here M _ ⟨x, xs, rfl, hx, rx⟩
    | _ => exact gen rfl
  | _ => exact gen rfl
end
end Sx

set_option Elab.async false
set_option linter.all false
set_option maxRecDepth 100000
set_option maxHeartbeats 2000000
/-! SxDict: what is never reached; dicts whose keys are numbers and texts. -/
namespace Sx
open PySem PySem.Spec L2
open PyProof.Rows hiding St
section
variable {X : Cx} {cm : Nat → Addr} {W : XW} {pos : Pos} {a b c e o : Expr} {es : List Expr} {fa fb fc fo : SE} {fs : SA}
/-- what is never reached -/
def sBad : SS := fun _ _ => .bad
def sBadE : SE := fun _ _ => .bad
theorem js_bad {st : Stmt} : JS X cm W st sBad := ⟨fun pins s σ H D I ⟨S, sv, _, _, _, p⟩ => p.elim⟩
theorem jb_bad {sts : List Stmt} : JB X cm W sts sBad := ⟨fun pins s σ H D I ⟨S, sv, _, _, _, p⟩ => p.elim⟩
theorem je_bad : JE X cm W e sBadE := ⟨fun pins s σ H Q I ⟨S, sv, _, _, _, p⟩ => p.elim⟩
/-! keys -/
theorem strL_inj {x y : List Nat} (h : strL x = strL y) : x = y := congrArg (fun s : Str => s.cps.toList) h
theorem kk_inj {x y : KV} (h : kk x = kk y) : x = y := by
  cases x with
  | inl i =>
    cases y with
    | inl j => exact congrArg Sum.inl (Sum.inl.inj h)
    | inr _ => exact absurd h (fun z => nomatch z)
  | inr i =>
    cases y with
    | inl j => exact absurd h (fun z => nomatch z)
    | inr _ => exact congrArg Sum.inr (strL_inj (Sum.inr.inj h))
def keyOf : Val → Option KV
  | .int i => some (.inl i)
  | .str x => some (.inr x)
  | _ => none
theorem key_rel {K : PySem.W.Frag} {S : Sn} {v : Val} {w : V} {k : KV} (r : VRel K S v w) (h : keyOf v = some k) : w = kV (kk k) := by
  cases v with
  | int i => cases h; cases r; rfl
  | str x => cases h; obtain ⟨y, rfl, e⟩ := r; subst e; rfl
  | _ => cases h
def posK {κ : Type} [DecidableEq κ] (k : κ) : List κ → Option Nat
  | [] => none
  | a :: as => if a = k then some 0 else (posK k as).map (· + 1)
theorem val_zip {κ κ' : Type} [DecidableEq κ] [DecidableEq κ'] {f : κ → κ'} (hf : ∀ x y, f x = f y → x = y) (k : κ) : ∀ (ks : List κ) (ws : List V), ks.length = ws.length → valV ((ks.map f).zip ws) (f k) = (posK k ks).bind fun i => ws[i]?
  | [], _, _ => by simp [posK, valV_nil]
  | a :: as, [], h => by simp at h
  | a :: as, w :: ws, h => by
    have ih := val_zip hf k as ws (by simpa using h)
    show valV ((f a, w) :: (as.map f).zip ws) (f k) = (if a = k then some 0 else (posK k as).map (· + 1)).bind _
    by_cases e : a = k
    · subst e
      rw [valV_pos rfl, if_pos rfl]; rfl
    · rw [valV_neg (fun z => e (hf _ _ z)), if_neg e, ih]
      cases posK k as <;> rfl
/-! x[y], a dict too -/
def rIxD' : R2 := fun x y H Q => ∃ a v, x = .ref a ∧ DGet H a y (some v) ∧ Q v H
theorem ix_dict (hu : X.A.units + 64 < cLine) : IxR X rIxD' := by
  intro value slice pins s σ H x y v u Q I rx ry h hs
  obtain ⟨a, z, rfl, g, q⟩ := h
  obtain rfl : v = Value.ref a := rx
  exact tail_any (dict_typeIs I g) PySem.F.slot_dict_getitem.lookup (d_getItem (by omega) I g ry fun w' s3 I3 rw' => ⟨z, H, I3, rw', q⟩) hs
def dAt (ks : List KV) (vs : List Val) (y : Val) : Option Val := (keyOf y).bind fun k => (posK k ks).bind fun i => vs[i]?
def gIxD : Val → Val → Hv → R Val := fun x y h => match x with
  | .ref n => (match h[n]? with
    | some (.dK ks vs) => (match dAt ks vs y with
      | some v => .ok v h
      | none => .bad)
    | _ => gIx x y h)
  | _ => gIx x y h
theorem je_ixD (hu : X.A.units + 64 < cLine) (ha : JE X cm W a fa) (hb : JE X cm W b fb) (hs : PlainIx b := by intro _ _; rfl) : JE X cm W (.Subscript a b pos) (sBin gIxD fa fb) := PE.imp (pe_ix (ix_seq.or (ix_dict hu)) ha hb hs) fun σ H Q ⟨S, sv, e, M, r, p⟩ => by
  subst e
  refine ⟨S, sv, rfl, M, r, Post.bind p fun x S1 e1 M1 p1 w1 r1 => ?_⟩
  refine ⟨S1, sv, rfl, M1, r.ext e1, Post.bind p1 fun y S2 e2 M2 p2 w2 r2 => ?_⟩
  have r1 := VRel.ext e2 x r1
  have gen : gIxD x y S2.h = gIx x y S2.h → rIx X.K w1 w2 S2.H Q ∨ rIxD' w1 w2 S2.H Q := fun e => by
    rw [e] at p2
    exact .inl (os_ix S2 x y w1 w2 Q M2 r1 r2 p2)
  cases x with
  | ref n =>
    cases hc : S2.h[n]? with
    | none => exact gen (by unfold gIxD; simp only [hc])
    | some c =>
      cases c with
      | dK ks vs =>
        obtain ⟨q, rfl, hm⟩ := r1
        obtain ⟨ws, h1, hl, h2⟩ := M2.obj n _ q hc hm
        unfold gIxD at p2
        simp only [hc] at p2
        unfold dAt at p2
        cases hk : keyOf y with
        | none => simp only [hk, Option.bind_none] at p2; exact p2.elim
        | some k =>
          simp only [hk, Option.bind_some] at p2
          cases hp : posK k ks with
          | none => simp only [hp, Option.bind_none] at p2; exact p2.elim
          | some i =>
            simp only [hp, Option.bind_some] at p2
            cases hv : vs[i]? with
            | none => simp only [hv] at p2; exact p2.elim
            | some v =>
              simp only [hv] at p2
              obtain ⟨w, hw, rw'⟩ := h2.get hv
              refine .inr ⟨q, w, rfl, ?_, p2.here M2 _ rw'⟩
              have e := val_zip (f := kk) (fun _ _ => kk_inj) k ks ws (by rw [hl.1, h2.length])
              rw [hp, Option.bind_some, hw] at e
              rw [key_rel r2 hk, ← e]
              exact DGet.k h1
      | _ => exact gen (by unfold gIxD; simp only [hc])
  | _ => exact gen rfl
/-! a display -/
abbrev SP := Env → Hv → R (List (Val × Val))
def PRels (K : PySem.W.Frag) (S : Sn) : List (Val × Val) → List (V × V) → Prop
  | [], ws => ws = []
  | p :: ps, ws => ∃ w r, ws = w :: r ∧ VRel K S p.1 w.1 ∧ VRel K S p.2 w.2 ∧ PRels K S ps r
def spNil : SP := fun _ h => .ok [] h
def spCons (fk fv : SE) (r : SP) : SP := fun sv h => (fk sv h).bind fun k h1 => (fv sv h1).bind fun v h2 => (r sv h2).bind fun ps h3 => .ok ((k, v) :: ps) h3
def tPs (K : PySem.W.Frag) (cm : Nat → Addr) (W : XW) (f : SP) : St → Hp → (List (V × V) → Hp → Prop) → Prop := fun σ H Q => ∃ S sv, S.H = H ∧ MR K cm S ∧ SRel K S sv σ ∧ Post K cm W S (f sv S.h) fun ps S' => ∀ ws, PRels K S' ps ws → Q ws S'.H
structure JPs (X : Cx) (cm : Nat → Addr) (W : XW) (pos : Pos) (ks : List (Option Expr)) (vs : List Expr) (f : SP) : Prop where
  ex : ∃ trs, PPs X pos ks vs trs ∧ ∀ σ H Q, tPs X.K cm W f σ H Q → tPairs trs σ H Q
theorem jps_nil : JPs X cm W pos [] [] spNil := ⟨[], pps_nil, fun σ H Q ⟨S, sv, e, M, r, p⟩ => by subst e; exact p.here M [] rfl⟩
theorem jps_cons {k v : Expr} {ks : List (Option Expr)} {vs : List Expr} {fk fv : SE} {f : SP} (hk : JE X cm W k fk) (hv : JE X cm W v fv) (hr : JPs X cm W pos ks vs f) : JPs X cm W pos (some k :: ks) (v :: vs) (spCons fk fv f) := by
  obtain ⟨trs, h1, h2⟩ := hr.ex
  refine ⟨_ :: trs, pps_cons hk hv h1, fun σ H Q ⟨S, sv, e, M, r, p⟩ => ?_⟩
  subst e
  refine ⟨S, sv, rfl, M, r, Post.bind p fun kv S1 e1 M1 p1 w1 r1 => ?_⟩
  refine ⟨S1, sv, rfl, M1, r.ext e1, Post.bind p1 fun vv S2 e2 M2 p2 w2 r2 => ?_⟩
  refine h2 _ _ _ ⟨S2, sv, rfl, M2, (r.ext e1).ext e2, Post.bind p2 fun ps S3 e3 M3 p3 ws rs => ?_⟩
  exact p3.here M3 ((w1, w2) :: ws) ⟨_, _, rfl, VRel.ext e3 _ (VRel.ext e2 _ r1), VRel.ext e3 _ r2, rs⟩
/-- a reserved address given back as none -/
def Sn.drop (S : Sn) (p : Addr) (z : List Addr) : Sn := ⟨S.m, S.h, fun b => if b = p then none else S.H b, z⟩
theorem lift_drop {S : Sn} {p : Addr} {z : List Addr} (hp : p ∈ S.z) (hz : ∀ q ∈ z, q ∈ S.z) : Lift S (S.drop p z) := ⟨fun _ _ h => h, fun q u h k => by
  have nq : q ≠ p := fun e => k (.inl (by rw [e]; exact hp))
  refine ⟨by show (if q = p then none else S.H q) = _; rw [if_neg nq]; exact h, fun a => k (a.elim (fun y => .inl (hz q y)) .inr)⟩⟩
theorem mr_drop {K : PySem.W.Frag} {S : Sn} (M : MR K cm S) {p : Addr} {z : List Addr} (hp : p ∈ S.z) (hz : ∀ q ∈ z, q ∈ S.z) (hn : p ∉ z) : MR K cm (S.drop p z) := by
  refine ⟨M.len, M.inj, fun i c q h1 h2 => ?_, fun q hq => ?_, fun i q c h1 h2 h3 hq => M.zc i q c h1 h2 h3 (hz q hq)⟩
  · by_cases hd : c = .dead
    · subst hd; trivial
    · have nq : q ≠ p := fun e => M.zc i q c h2 h1 hd (by rw [e]; exact hp)
      exact (M.obj i c q h1 h2).lift (lift_drop hp hz) fun u hu => by show (if q = p then none else S.H q) = _; rw [if_neg nq]; exact hu
  · show (if q = p then none else S.H q) ≠ none
    rw [if_neg (fun e => hn (by rw [← e]; exact hq))]
    exact M.zn q (hz q hq)
theorem ext_drop {K : PySem.W.Frag} {S S' : Sn} (M : MR K cm S) {p : Addr} {o : HO} (hp : S.H p = none) (e : Ext (S.res p o) S') : Ext S (S'.drop p S.z) := by
  refine ⟨rfl, fun i q h => e.pre i q h, fun q u h k => ?_, fun q hq => ?_⟩
  · have nq : q ≠ p := ne_of_none h hp
    have k' : ¬ Al (S.res p o) q := by
      rintro (a | a)
      · rcases List.mem_cons.mp a with z | z
        · exact nq z
        · exact k (.inl z)
      · exact k (.inr a)
    obtain ⟨h1, h2⟩ := e.keep q u (by show upd S.H p o q = _; rw [upd_ne nq]; exact h) k'
    refine ⟨by show (if q = p then none else S'.H q) = _; rw [if_neg nq]; exact h1, ?_⟩
    rintro (a | a)
    · exact k (.inl a)
    · exact h2 (.inr a)
  · have nq : q ≠ p := fun z => M.zn q hq (by rw [z]; exact hp)
    show (if q = p then none else S'.H q) = _
    rw [if_neg nq, e.rz q (List.mem_cons_of_mem _ hq)]
    show upd S.H p o q = _
    rw [upd_ne nq]
/-- the keys of pairs -/
def keysOf : List (Val × Val) → Option (List KV)
  | [] => some []
  | p :: ps => (keyOf p.1).bind fun k => (keysOf ps).map (k :: ·)
def dispK (ps : List (Val × Val)) (h : Hv) : R Val := match keysOf ps with
  | some ks => if ks.Nodup ∧ ps.length ≤ 15 then .ok (.ref h.length) (h ++ [.dK ks (ps.map (·.2))]) else .bad
  | none => .bad
def sDisp (f : SP) : SE := fun sv h => (noX (f sv h)).bind dispK
theorem merge_nodup : ∀ (kvs acc : List (Key × V)), ((acc ++ kvs).map (·.1)).Nodup → mergeK acc kvs = acc ++ kvs
  | [], acc, _ => by simp [mergeK]
  | kv :: kvs, acc, h => by
    have hn : (acc.any fun x => decide (x.1 = kv.1)) = false := by
      rw [List.any_eq_false]
      intro x hx
      have : x.1 ≠ kv.1 := by
        intro e
        rw [List.map_append, List.nodup_append] at h
        exact h.2.2 x.1 (List.mem_map_of_mem hx) kv.1 (by simp) e
      simpa using this
    have e : putK acc kv.1 kv.2 = acc ++ [kv] := by unfold putK; rw [hn]; rfl
    show mergeK (putK acc kv.1 kv.2) kvs = _
    rw [e, merge_nodup kvs (acc ++ [kv]) (by simpa using h)]
    simp
theorem keys_rel {K : PySem.W.Frag} {S : Sn} : ∀ {ps : List (Val × Val)} {ws : List (V × V)} {ks : List KV}, PRels K S ps ws → keysOf ps = some ks → ∃ us, ws = ((ks.map kk).zip us).map (fun kv => (kV kv.1, kv.2)) ∧ ks.length = ps.length ∧ VRels K S (ps.map (·.2)) us
  | [], _, _, r, h => by cases r; cases h; exact ⟨[], rfl, rfl, rfl⟩
  | p :: ps, _, ks, ⟨w, r, e, h1, h2, h3⟩, h => by
    subst e
    unfold keysOf at h
    cases hk : keyOf p.1 with
    | none => rw [hk] at h; cases h
    | some k =>
      rw [hk, Option.bind_some] at h
      cases hr : keysOf ps with
      | none => rw [hr] at h; cases h
      | some kr =>
        rw [hr] at h
        cases h
        obtain ⟨us, e1, e2, e3⟩ := keys_rel h3 hr
        refine ⟨w.2 :: us, ?_, by simp [e2], ⟨w.2, us, rfl, h2, e3⟩⟩
        rw [e1]
        show _ = (kV (kk k), w.2) :: _
        rw [← key_rel h1 hk]
        rfl
theorem je_disp {ks : List (Option Expr)} {vs : List Expr} {f : SP} (hp : JPs X cm W0 pos ks vs f) (hall : ks.all (·.isSome) = true) (hl : ks.length = vs.length) (h0 : ks ≠ []) (h15 : ks.length ≤ 15) : JE X cm W (.Dict ks vs pos) (sDisp f) := by
  obtain ⟨trs, h1, h2⟩ := hp.ex
  refine PE.imp (pe_disp h1 hall hl h0 h15) fun σ H Q ⟨S, sv, e, M, r, p⟩ => ?_
  subst e
  intro d hd
  refine h2 _ _ _ ⟨S.res d (.dK []), sv, rfl, mr_res M hd, r.lift (lift_res M hd), ?_⟩
  have p : Post X.K cm W S ((noX (f sv S.h)).bind dispK) fun v S' => ∀ w, VRel X.K S' v w → Q w S'.H := p
  show Post X.K cm W0 (S.res d (.dK [])) (f sv S.h) _
  cases hf : f sv S.h with
  | bad => rw [hf] at p; exact p.elim
  | exc _ _ _ => rw [hf] at p; exact p.elim
  | ok ps h' =>
    rw [hf] at p
    intro S' eh e' M' ws rs
    have hz : d ∈ S'.z := by rw [e'.zz]; exact List.mem_cons_self
    have hzz : ∀ q ∈ S.z, q ∈ S'.z := fun q hq => by rw [e'.zz]; exact List.mem_cons_of_mem _ hq
    have hn : d ∉ S.z := fun z => M.zn d z hd
    have ed := ext_drop M hd e'
    have Md := mr_drop M' hz hzz hn
    have hH : S'.H d = some (.dK []) := by rw [e'.rz d List.mem_cons_self]; exact upd_same
    have p : Post X.K cm W S (dispK ps h') fun v S' => ∀ w, VRel X.K S' v w → Q w S'.H := p
    unfold dispK at p
    cases hk : keysOf ps with
    | none => simp only [hk] at p; exact p.elim
    | some kys =>
      simp only [hk] at p
      obtain ⟨⟨hnd, h15'⟩, p⟩ := Post.ite p
      obtain ⟨us, e1, e2, e3⟩ := keys_rel rs hk
      refine ⟨hH, (kys.map kk).zip us, e1, ?_, ?_⟩
      · have : us.length = ps.length := by rw [← e3.length, List.length_map]
        rw [List.length_zip, List.length_map, e2, this]; omega
      · have hu : us.length = kys.length := by rw [← e3.length, List.length_map, e2]
        have hm : ((kys.map kk).zip us).map (·.1) = kys.map kk := by rw [List.map_fst_zip]; rw [List.length_map, hu]; exact Nat.le_refl _
        have hmg : mergeK [] ((kys.map kk).zip us) = (kys.map kk).zip us := by
          rw [merge_nodup, List.nil_append]
          rw [List.nil_append, hm]
          exact hnd.map (f := kk) (fun a b hab z => hab (kk_inj z))
        rw [hmg]
        have hp0 : (S'.drop d S.z).H d = none := if_pos rfl
        have ru : VRels X.K (S'.drop d S.z) (ps.map (·.2)) us := VRels.lift (lift_drop hz hzz) _ e3
        have en := ext_new Md hp0 (.dK ((kys.map kk).zip us)) (.dK kys (ps.map (·.2)))
        have mn := mr_new (o := .dK ((kys.map kk).zip us)) (c := .dK kys (ps.map (·.2))) Md hp0 ⟨us, upd_same, ⟨by rw [List.length_map, e2], hnd⟩, VRels.ext en _ ru⟩
        have q := p ((S'.drop d S.z).new d (.dK ((kys.map kk).zip us)) (.dK kys (ps.map (·.2)))) (by show S'.h ++ _ = _; rw [eh]) (ed.trans en) mn (.ref d) ⟨d, rfl, by
          show (S'.m ++ [d])[h'.length]? = some d
          rw [← eh, ← M'.len]; simp⟩
        have eH : (fun b => if b = d then some (HO.dK ((kys.map kk).zip us)) else (if b = d then none else S'.H b)) = upd S'.H d (.dK ((kys.map kk).zip us)) := by
          funext b
          unfold upd
          by_cases hb : b = d
          · rw [if_pos hb, if_pos hb]
          · rw [if_neg hb, if_neg hb, if_neg hb]
        have q' : Q (.ref d) (fun b => if b = d then some (HO.dK ((kys.map kk).zip us)) else (if b = d then none else S'.H b)) := q
        rw [eH] at q'
        exact q'
/-! a, b = x, y; a, b, c = x, y, z -/
def par2K (i j : Nat) (sv : Env) (vs : List Val) (h : Hv) : R Fl := match vs with
  | [v, w] => .ok (.nx ((sv.set i (some v)).set j (some w))) h
  | _ => .bad
def par3K (i j l : Nat) (sv : Env) (vs : List Val) (h : Hv) : R Fl := match vs with
  | [u, v, w] => .ok (.nx (((sv.set i (some u)).set j (some v)).set l (some w))) h
  | _ => .bad
def sPar2 (i j : Nat) (fs : SA) : SS := fun sv h => (fs sv h).bind (par2K i j sv)
def sPar3 (i j l : Nat) (fs : SA) : SS := fun sv h => (fs sv h).bind (par3K i j l sv)
theorem js_par2 {i j : Nat} {x y : Str} {px py pt : Pos} {kt k2 pt2} (hc : X.calm = true) (hN : X.N.Nodup) (hi : X.N[i]? = some x) (hj : X.N[j]? = some y) (hij : i ≠ j)
    (hx : X.env.scope.names.lookup x = some .local) (hy : X.env.scope.names.lookup y = some .local) (ha : JA X cm W [a, b] fs)
    (hw : swappedStores [.Tuple [.Name x px, .Name y py] kt pt] (.Tuple [a, b] k2 pt2) X.env = pure (some [x, y]))
    (hs : swapsWithSole [.Tuple [.Name x px, .Name y py] kt pt] (.Tuple [a, b] k2 pt2) pos.line X.env = pure false := by rfl) :
    JS X cm W (.Assign [.Tuple [.Name x px, .Name y py] kt pt] (.Tuple [a, b] k2 pt2) pos) (sPar2 i j fs) := PS.imp (ps_par hc hN hi hj hij hx hy ha hw hs) fun D σ H ⟨S, sv, e, M, r, p⟩ => by
  subst e
  refine ⟨S, sv, rfl, M, r, Post.bind p fun vs S1 e1 M1 p1 ws rs => ?_⟩
  match vs, rs, p1 with
  | [], _, p1 => exact p1.elim
  | [_], _, p1 => exact p1.elim
  | _ :: _ :: _ :: _, _, p1 => exact p1.elim
  | [v, w], ⟨w1, _, e1', r1, w2, _, e2', r2, e3⟩, p1 =>
    subst e1' e2' e3
    exact ⟨w1, w2, rfl, p1.here M1 _ (((r.ext e1).set r1 i).set r2 j)⟩
theorem js_par3 {i j l : Nat} {x y z : Str} {px py pz pt : Pos} {kt k2 pt2} (hc : X.calm = true) (hN : X.N.Nodup) (hi : X.N[i]? = some x) (hj : X.N[j]? = some y) (hl : X.N[l]? = some z) (hij : i ≠ j) (hil : i ≠ l) (hjl : j ≠ l)
    (hx : X.env.scope.names.lookup x = some .local) (hy : X.env.scope.names.lookup y = some .local) (hz : X.env.scope.names.lookup z = some .local) (ha : JA X cm W [a, b, c] fs)
    (hw : swappedStores [.Tuple [.Name x px, .Name y py, .Name z pz] kt pt] (.Tuple [a, b, c] k2 pt2) X.env = pure (some [x, y, z]))
    (hs : swapsWithSole [.Tuple [.Name x px, .Name y py, .Name z pz] kt pt] (.Tuple [a, b, c] k2 pt2) pos.line X.env = pure false := by rfl) :
    JS X cm W (.Assign [.Tuple [.Name x px, .Name y py, .Name z pz] kt pt] (.Tuple [a, b, c] k2 pt2) pos) (sPar3 i j l fs) := PS.imp (ps_par3 hc hN hi hj hl hij hil hjl hx hy hz ha hw hs) fun D σ H ⟨S, sv, e, M, r, p⟩ => by
  subst e
  refine ⟨S, sv, rfl, M, r, Post.bind p fun vs S1 e1 M1 p1 ws rs => ?_⟩
  match vs, rs, p1 with
  | [], _, p1 => exact p1.elim
  | [_], _, p1 => exact p1.elim
  | [_, _], _, p1 => exact p1.elim
  | _ :: _ :: _ :: _ :: _, _, p1 => exact p1.elim
  | [u, v, w], ⟨w1, _, e1', r1, w2, _, e2', r2, w3, _, e3', r3, e4⟩, p1 =>
    subst e1' e2' e3' e4
    exact ⟨w1, w2, w3, rfl, p1.here M1 _ ((((r.ext e1).set r1 i).set r2 j).set r3 l)⟩
end
end Sx

set_option Elab.async false
set_option linter.all false
set_option maxRecDepth 100000
/-! SxSimp: the semantics step by step, for simp; what holds of a result. -/
namespace Sx
section
variable {α β : Type} {sv : Env} {h : Hv} {a b c : SE} {t u : ST} {f g : SS} {fs : SA} {v : Val}
theorem bind_congr {r : R α} {k l : α → Hv → R β} (e : ∀ a h, k a h = l a h) : r.bind k = r.bind l := by cases r <;> first | rfl | exact e _ _
@[simp] theorem bind_ite {c : Prop} [Decidable c] {r s : R α} {k : α → Hv → R β} : (if c then r else s).bind k = if c then r.bind k else s.bind k := by split <;> rfl
@[simp] theorem bind_assoc {γ : Type} {r : R α} {k : α → Hv → R β} {l : β → Hv → R γ} : (r.bind k).bind l = r.bind fun a h => (k a h).bind l := by cases r <;> rfl
@[simp] theorem sC_app : sC v sv h = .ok v h := rfl
def getV : Option (Option Val) → Hv → R Val
  | some (some v), h => .ok v h
  | _, _ => .bad
@[simp] theorem getV_some : getV (some (some v)) h = .ok v h := rfl
@[simp] theorem getV_none : getV (some none) h = .bad := rfl
@[simp] theorem sVar_app {i : Nat} : sVar i sv h = getV sv[i]? h := by unfold sVar getV; split <;> simp_all
@[simp] theorem sBin_app {k : Val → Val → Hv → R Val} : sBin k a b sv h = (a sv h).bind fun x h1 => (b sv h1).bind fun y h2 => k x y h2 := rfl
@[simp] theorem sUn_app {k : Val → Hv → R Val} : sUn k a sv h = (a sv h).bind k := rfl
@[simp] theorem sNil_app : sNil sv h = .ok [] h := rfl
@[simp] theorem sCons_app : sCons a fs sv h = (a sv h).bind fun x h1 => (fs sv h1).bind fun xs h2 => .ok (x :: xs) h2 := rfl
@[simp] theorem sCall_app {G : SF} : sCall G fs sv h = (fs sv h).bind G := rfl
def tupK (vs : List Val) (h : Hv) : R Val := if vs.length ≤ 16777216 then .ok (.tup vs) h else .bad
def lstK (vs : List Val) (h : Hv) : R Val := if vs.length ≤ 16777216 then .ok (.fl vs) h else .bad
def lstNK (vs : List Val) (h : Hv) : R Val := if vs.length ≤ 16777216 then .ok (.ref h.length) (h ++ [.lst vs]) else .bad
@[simp] theorem sTup_app : sTup fs sv h = (fs sv h).bind tupK := rfl
@[simp] theorem sLst_app : sLst fs sv h = (fs sv h).bind lstK := rfl
@[simp] theorem sLstN_app : sLstN fs sv h = (fs sv h).bind lstNK := rfl
@[simp] theorem sIf_app : sIf t a b sv h = (t sv h).bind fun k h1 => if k = true then a sv h1 else b sv h1 := rfl
def blK : Val → Hv → R Bool
  | .bl b, h => .ok b h
  | _, _ => .bad
@[simp] theorem blK_bl {b : Bool} : blK (.bl b) h = .ok b h := rfl
@[simp] theorem sTest_app : sTest a sv h = (a sv h).bind blK := by
  exact bind_congr fun v h1 => by cases v <;> first | rfl | (rename_i k; cases k <;> rfl)
def truK (v : Val) (h : Hv) : R Bool := match truB v h with
  | some b => .ok b h
  | none => .bad
@[simp] theorem sTru_app : sTru a sv h = (a sv h).bind truK := rfl
@[simp] theorem truK_bl {b : Bool} : truK (.bl b) h = .ok b h := rfl
@[simp] theorem truK_non : truK .non h = .ok false h := rfl
@[simp] theorem truK_int {i : Int} : truK (.int i) h = .ok (!decide (i = 0)) h := rfl
@[simp] theorem truK_fl {vs : List Val} : truK (.fl vs) h = .ok (!vs.isEmpty) h := rfl
@[simp] theorem truK_tup {vs : List Val} : truK (.tup vs) h = .ok (!vs.isEmpty) h := rfl
@[simp] theorem tAnd_app : tAnd' t u sv h = (t sv h).bind fun k h1 => if k = true then u sv h1 else .ok false h1 := rfl
@[simp] theorem tOr_app : tOr' t u sv h = (t sv h).bind fun k h1 => if k = true then .ok true h1 else u sv h1 := rfl
@[simp] theorem tNot_app : tNot' t sv h = (t sv h).bind fun k h1 => .ok (!k) h1 := rfl
@[simp] theorem tTrue_app : tTrue sv h = .ok true h := rfl
def andK (b : SE) (sv : Env) : Val → Hv → R Val
  | .bl true, h => b sv h
  | .bl false, h => .ok (.bl false) h
  | _, _ => .bad
def orK (b : SE) (sv : Env) : Val → Hv → R Val
  | .bl true, h => .ok (.bl true) h
  | .bl false, h => b sv h
  | _, _ => .bad
@[simp] theorem andK_bl {k : Bool} : andK b sv (.bl k) h = if k = true then b sv h else .ok (.bl false) h := by cases k <;> rfl
@[simp] theorem orK_bl {k : Bool} : orK b sv (.bl k) h = if k = true then .ok (.bl true) h else b sv h := by cases k <;> rfl
@[simp] theorem sAnd_app : sAnd a b sv h = (a sv h).bind (andK b sv) := by
  exact bind_congr fun v h1 => by cases v <;> first | rfl | (rename_i k; cases k <;> rfl)
@[simp] theorem sOr_app : sOr a b sv h = (a sv h).bind (orK b sv) := by
  exact bind_congr fun v h1 => by cases v <;> first | rfl | (rename_i k; cases k <;> rfl)
def notK : Val → Hv → R Val
  | .bl b, h => .ok (.bl (!b)) h
  | _, _ => .bad
@[simp] theorem notK_bl {k : Bool} : notK (.bl k) h = .ok (.bl (!k)) h := rfl
@[simp] theorem sNotV_app : sNotV a sv h = (a sv h).bind notK := by
  exact bind_congr fun v h1 => by cases v <;> first | rfl | (rename_i k; cases k <;> rfl)
def chK (g' : Val → Val → Hv → R Val) (c : SE) (sv : Env) (y : Val) : Val → Hv → R Val
  | .bl true, h => (c sv h).bind fun w h4 => g' y w h4
  | .bl false, h => .ok (.bl false) h
  | _, _ => .bad
@[simp] theorem chK_bl {g' : Val → Val → Hv → R Val} {y : Val} {k : Bool} : chK g' c sv y (.bl k) h = if k = true then (c sv h).bind fun w h4 => g' y w h4 else .ok (.bl false) h := by cases k <;> rfl
@[simp] theorem sChain_app {k k' : Val → Val → Hv → R Val} : sChain k k' a b c sv h = (a sv h).bind fun x h1 => (b sv h1).bind fun y h2 => (k x y h2).bind (chK k' c sv y) := by
  exact bind_congr fun x h1 => bind_congr fun y h2 => bind_congr fun v h3 => by cases v <;> first | rfl | (rename_i k; cases k <;> rfl)
@[simp] theorem sSkip_app : sSkip sv h = .ok (.nx sv) h := rfl
def seqK (g : SS) : Fl → Hv → R Fl
  | .nx s, h => g s h
  | f, h => .ok f h
@[simp] theorem seqK_nx {s : Env} : seqK g (.nx s) h = g s h := rfl
@[simp] theorem seqK_rt : seqK g (.rt v) h = .ok (.rt v) h := rfl
@[simp] theorem seqK_bk {s : Env} : seqK g (.bk s) h = .ok (.bk s) h := rfl
@[simp] theorem seqK_ct {s : Env} : seqK g (.ct s) h = .ok (.ct s) h := rfl
@[simp] theorem sSeq_app : sSeq f g sv h = (f sv h).bind (seqK g) := by
  exact bind_congr fun v h1 => by cases v <;> first | rfl | (rename_i k; cases k <;> rfl)
@[simp] theorem sSet_app {i : Nat} : sSet i a sv h = (a sv h).bind fun v h1 => .ok (.nx (sv.set i (some v))) h1 := rfl
@[simp] theorem sRet_app : sRet a sv h = (a sv h).bind fun v h1 => .ok (.rt v) h1 := rfl
@[simp] theorem sRetN_app : sRetN sv h = .ok (.rt .non) h := rfl
@[simp] theorem sExpr_app : sExpr a sv h = (a sv h).bind fun _ h1 => .ok (.nx sv) h1 := rfl
@[simp] theorem sIte_app : sIte t f g sv h = (t sv h).bind fun k h1 => if k = true then f sv h1 else g sv h1 := rfl
@[simp] theorem sBrk_app : sBrk sv h = .ok (.bk sv) h := rfl
@[simp] theorem sCnt_app : sCnt sv h = .ok (.ct sv) h := rfl
@[simp] theorem sAsg_app {gg : SG} : sAsg a gg sv h = (a sv h).bind fun v h1 => (gg v sv h1).bind fun s h2 => .ok (.nx s) h2 := rfl
@[simp] theorem sFrz_app : sFrz a sv h = (a sv h).bind frz := rfl
@[simp] theorem sFrzV_app {i : Nat} : sFrzV i sv h = (sVar i sv h).bind fun v h1 => (frz v h1).bind fun u h2 => .ok (.nx (sv.set i (some u))) h2 := rfl
@[simp] theorem sFor_app {it : SI} {gg : SG} : sFor it gg f sv h = (it sv h).bind fun xs h1 => sForL gg f xs sv h1 := rfl
@[simp] theorem gNm_app {i : Nat} : gNm i v sv h = .ok (sv.set i (some v)) h := rfl
def itK : Val → Hv → R (List Val)
  | .tup vs, h => .ok vs h
  | .fl vs, h => .ok vs h
  | .kl vs, h => .ok vs h
  | _, _ => .bad
@[simp] theorem itK_tup {vs : List Val} : itK (.tup vs) h = .ok vs h := rfl
@[simp] theorem itK_fl {vs : List Val} : itK (.fl vs) h = .ok vs h := rfl
@[simp] theorem itK_kl {vs : List Val} : itK (.kl vs) h = .ok vs h := rfl
@[simp] theorem iVal_app : iVal a sv h = (a sv h).bind itK := by
  exact bind_congr fun v h1 => by cases v <;> first | rfl | (rename_i k; cases k <;> rfl)
def rg1K : Val → Hv → R (List Val)
  | .int j, h => if -4611686018427387904 ≤ j ∧ j < 4611686018427387904 then .ok (rangeV 0 j.toNat) h else .bad
  | _, _ => .bad
@[simp] theorem rg1K_int {j : Int} : rg1K (.int j) h = if -4611686018427387904 ≤ j ∧ j < 4611686018427387904 then .ok (rangeV 0 j.toNat) h else .bad := rfl
@[simp] theorem iRange1_app : iRange1 a sv h = (a sv h).bind rg1K := by
  exact bind_congr fun v h1 => by cases v <;> first | rfl | (rename_i k; cases k <;> rfl)
theorem rg1K_of {n : Nat} (hn : n < 4611686018427387904) : rg1K (.int n) h = .ok (rangeV 0 n) h := by
  rw [rg1K_int, if_pos ⟨by omega, by omega⟩, Int.toNat_natCast]
def rg2K : Val → Val → Hv → R (List Val)
  | .int i, .int j, h => if (-4611686018427387904 ≤ i ∧ i < 4611686018427387904) ∧ -4611686018427387904 ≤ j ∧ j < 4611686018427387904 then .ok (rangeV i (j - i).toNat) h else .bad
  | _, _, _ => .bad
@[simp] theorem rg2K_int {i j : Int} : rg2K (.int i) (.int j) h = if (-4611686018427387904 ≤ i ∧ i < 4611686018427387904) ∧ -4611686018427387904 ≤ j ∧ j < 4611686018427387904 then .ok (rangeV i (j - i).toNat) h else .bad := rfl
@[simp] theorem iRange2_app : iRange2 a b sv h = (a sv h).bind fun v h1 => (b sv h1).bind (rg2K v) := by
  exact bind_congr fun v h1 => bind_congr fun u h2 => by cases v <;> first | rfl | (cases u <;> rfl)
@[simp] theorem sLc_app {own : List Nat} {it : SI} {gg : SG} : sLc own it gg t a sv h = (it sv h).bind fun xs h1 => noX ((sLcL gg t a (wipeE sv own) 0 xs h1).bind fun ys h2 => .ok (.fl ys) h2) := rfl
@[simp] theorem noX_ok {x : α} : noX (.ok x h) = .ok x h := rfl
@[simp] theorem noX_bad : noX (.bad : R α) = .bad := rfl
@[simp] theorem noX_ite {c : Prop} [Decidable c] {r s : R α} : noX (if c then r else s) = if c then noX r else noX s := by split <;> rfl
theorem callF_eq {n : Nat} {G : SF} {us : List Val} (hl : us.length = n) : callF n G us h = noX (G us h) := by unfold callF; rw [if_pos hl]
theorem callF_ok {n : Nat} {G : SF} {us : List Val} {h' : Hv} (hl : us.length = n) (e : G us h = .ok v h') : callF n G us h = .ok v h' := by rw [callF_eq hl, e]; rfl
@[simp] theorem callF_1 {G : SF} {x : Val} : callF 1 G [x] h = noX (G [x] h) := rfl
@[simp] theorem callF_2 {G : SF} {x y : Val} : callF 2 G [x, y] h = noX (G [x, y] h) := rfl
@[simp] theorem callF_3 {G : SF} {x y z : Val} : callF 3 G [x, y, z] h = noX (G [x, y, z] h) := rfl
@[simp] theorem callF_4 {G : SF} {x y z w : Val} : callF 4 G [x, y, z, w] h = noX (G [x, y, z, w] h) := rfl
@[simp] theorem callF_5 {G : SF} {x y z w o : Val} : callF 5 G [x, y, z, w, o] h = noX (G [x, y, z, w, o] h) := rfl
/-- a def's end -/
def fin : R Fl → R Val
  | .ok (.rt v) h1 => .ok v h1
  | .ok (.nx _) h1 => .ok .non h1
  | .ok _ _ => .bad
  | .exc c v h1 => .exc c v h1
  | .bad => .bad
@[simp] theorem fin_rt : fin (.ok (.rt v) h) = .ok v h := rfl
@[simp] theorem fin_nx {s : Env} : fin (.ok (.nx s) h) = .ok .non h := rfl
@[simp] theorem fin_bad : fin .bad = .bad := rfl
@[simp] theorem fin_ite {c : Prop} [Decidable c] {r s : R Fl} : fin (if c then r else s) = if c then fin r else fin s := by split <;> rfl
theorem sFn_app {n k : Nat} {us : List Val} (hl : us.length = n) : sFn n k f us h = fin (f (us.map some ++ List.replicate (k - n) none) h) := by
  unfold sFn
  rw [if_pos hl]
  generalize f (us.map some ++ List.replicate (k - n) none) h = z
  cases z with
  | ok fl h1 => cases fl <;> rfl
  | _ => rfl
@[simp] theorem sFn_1 {k : Nat} {x : Val} : sFn 1 k f [x] h = fin (f (some x :: List.replicate (k - 1) none) h) := sFn_app rfl
@[simp] theorem sFn_2 {k : Nat} {x y : Val} : sFn 2 k f [x, y] h = fin (f (some x :: some y :: List.replicate (k - 2) none) h) := sFn_app rfl
@[simp] theorem sFn_3 {k : Nat} {x y z : Val} : sFn 3 k f [x, y, z] h = fin (f (some x :: some y :: some z :: List.replicate (k - 3) none) h) := sFn_app rfl
@[simp] theorem sFn_4 {k : Nat} {x y z u : Val} : sFn 4 k f [x, y, z, u] h = fin (f (some x :: some y :: some z :: some u :: List.replicate (k - 4) none) h) := sFn_app rfl
@[simp] theorem sFn_5 {k : Nat} {x y z u o : Val} : sFn 5 k f [x, y, z, u, o] h = fin (f (some x :: some y :: some z :: some u :: some o :: List.replicate (k - 5) none) h) := sFn_app rfl
/-! operators -/
@[simp] theorem gEq_int {i j : Int} : gEq (.int i) (.int j) h = .ok (.bl (decide (i = j))) h := rfl
@[simp] theorem gEq_str {i j : List Nat} : gEq (.str i) (.str j) h = .ok (.bl (decide (i = j))) h := rfl
@[simp] theorem gEq_bl {i j : Bool} : gEq (.bl i) (.bl j) h = .ok (.bl (decide (i = j))) h := rfl
@[simp] theorem gNe_int {i j : Int} : gNe (.int i) (.int j) h = .ok (.bl (!decide (i = j))) h := rfl
@[simp] theorem gNe_str {i j : List Nat} : gNe (.str i) (.str j) h = .ok (.bl (!decide (i = j))) h := rfl
@[simp] theorem gNe_bl {i j : Bool} : gNe (.bl i) (.bl j) h = .ok (.bl (!decide (i = j))) h := rfl
@[simp] theorem gAdd_int {i j : Int} : gAdd (.int i) (.int j) h = .ok (.int (i + j)) h := rfl
@[simp] theorem gIAdd_int {i j : Int} : gIAdd (.int i) (.int j) h = .ok (.int (i + j)) h := rfl
@[simp] theorem gSub_int {i j : Int} : gSub (.int i) (.int j) h = .ok (.int (i - j)) h := rfl
@[simp] theorem gMul_int {i j : Int} : gMul (.int i) (.int j) h = if (-18446744073709551616 < j ∧ j < 18446744073709551616) ∨ (-18446744073709551616 < i ∧ i < 18446744073709551616) then .ok (.int (i * j)) h else .bad := rfl
@[simp] theorem gMod_int {i j : Int} : gMod (.int i) (.int j) h = if 0 < j then .ok (.int (i % j)) h else .bad := rfl
@[simp] theorem gDiv_int {i j : Int} : gDiv (.int i) (.int j) h = if 0 < j ∧ j < 1000000000000 then .ok (.int (i / j)) h else .bad := rfl
@[simp] theorem gShl_int {i j : Int} : gShl (.int i) (.int j) h = if 0 ≤ j ∧ j ≤ 1000000 ∧ i.natAbs < 18446744073709551616 then .ok (.int (i * 2 ^ j.toNat)) h else .bad := rfl
@[simp] theorem gShr_int {i j : Int} : gShr (.int i) (.int j) h = if 0 ≤ j then .ok (.int (i / 2 ^ j.toNat)) h else .bad := rfl
@[simp] theorem gAnd_int {i j : Int} : gAnd (.int i) (.int j) h = .ok (.int (PySem.Builtin.bitAnd i j)) h := rfl
@[simp] theorem gOr_int {i j : Int} : gOr (.int i) (.int j) h = .ok (.int (PySem.Builtin.bitOr i j)) h := rfl
@[simp] theorem gXor_int {i j : Int} : gXor (.int i) (.int j) h = .ok (.int (PySem.Builtin.bitXor i j)) h := rfl
@[simp] theorem gLt_int {i j : Int} : gLt (.int i) (.int j) h = .ok (.bl (decide (i < j))) h := rfl
@[simp] theorem gLe_int {i j : Int} : gLe (.int i) (.int j) h = .ok (.bl (decide (i ≤ j))) h := rfl
@[simp] theorem gGt_int {i j : Int} : gGt (.int i) (.int j) h = .ok (.bl (decide (j < i))) h := rfl
@[simp] theorem gGe_int {i j : Int} : gGe (.int i) (.int j) h = .ok (.bl (decide (j ≤ i))) h := rfl
@[simp] theorem gNeg_int {i : Int} : gNeg (.int i) h = .ok (.int (-i)) h := rfl
@[simp] theorem gIsN_non {x : Val} : gIsN x .non h = .ok (.bl x.isNon) h := rfl
@[simp] theorem gNotN_non {x : Val} : gNotN x .non h = .ok (.bl (!x.isNon)) h := rfl
@[simp] theorem isNon_non : Val.isNon .non = true := rfl
@[simp] theorem isNon_int {i : Int} : Val.isNon (.int i) = false := rfl
@[simp] theorem isNon_bl {i : Bool} : Val.isNon (.bl i) = false := rfl
@[simp] theorem isNon_str {i : List Nat} : Val.isNon (.str i) = false := rfl
@[simp] theorem isNon_tup {i : List Val} : Val.isNon (.tup i) = false := rfl
@[simp] theorem isNon_fl {i : List Val} : Val.isNon (.fl i) = false := rfl
@[simp] theorem isNon_ref {i : Nat} : Val.isNon (.ref i) = false := rfl
@[simp] theorem gIn_fl {x : Val} {vs : List Val} : gIn x (.fl vs) h = if x.flat = true ∧ vs.all Val.flat = true then .ok (.bl (vs.any fun u => Val.eq u x)) h else .bad := rfl
@[simp] theorem gIn_tup {x : Val} {vs : List Val} : gIn x (.tup vs) h = if x.flat = true ∧ vs.all Val.flat = true then .ok (.bl (vs.any fun u => Val.eq u x)) h else .bad := rfl
@[simp] theorem gNotIn_fl {x : Val} {vs : List Val} : gNotIn x (.fl vs) h = if x.flat = true ∧ vs.all Val.flat = true then .ok (.bl (!vs.any fun u => Val.eq u x)) h else .bad := rfl
@[simp] theorem gNotIn_tup {x : Val} {vs : List Val} : gNotIn x (.tup vs) h = if x.flat = true ∧ vs.all Val.flat = true then .ok (.bl (!vs.any fun u => Val.eq u x)) h else .bad := rfl
@[simp] theorem flat_str {x : List Nat} : Val.flat (.str x) = true := rfl
@[simp] theorem flat_int {x : Int} : Val.flat (.int x) = true := rfl
@[simp] theorem flat_bl {x : Bool} : Val.flat (.bl x) = true := rfl
@[simp] theorem flat_non : Val.flat .non = true := rfl
@[simp] theorem veq_str {x y : List Nat} : Val.eq (.str x) (.str y) = decide (x = y) := by simp only [Val.eq]; exact Bool.eq_iff_iff.mpr (by simp)
@[simp] theorem veq_int {x y : Int} : Val.eq (.int x) (.int y) = decide (x = y) := by simp only [Val.eq]; exact Bool.eq_iff_iff.mpr (by simp)
@[simp] theorem veq_bl {x y : Bool} : Val.eq (.bl x) (.bl y) = decide (x = y) := by simp only [Val.eq]; exact Bool.eq_iff_iff.mpr (by simp)
@[simp] theorem veq_str_int {x : List Nat} {y : Int} : Val.eq (.str x) (.int y) = false := rfl
@[simp] theorem veq_int_str {x : List Nat} {y : Int} : Val.eq (.int y) (.str x) = false := rfl
@[simp] theorem firstAt_nil {y : Val} : firstAt y [] = none := rfl
@[simp] theorem firstAt_cons {y x : Val} {vs : List Val} : firstAt y (x :: vs) = if Val.eq x y = true then some 0 else (firstAt y vs).map (· + 1) := rfl
def indK : Option Nat → Hv → R Val
  | some j, h => .ok (.int j) h
  | none, _ => .bad
@[simp] theorem indK_some {j : Nat} : indK (some j) h = .ok (.int j) h := rfl
@[simp] theorem mIndex_fl {y : Val} {vs : List Val} : mIndex (.fl vs) [y] h = if y.flat = true ∧ vs.all Val.flat = true then indK (firstAt y vs) h else .bad := by
  show gIndex y vs h = _
  unfold gIndex
  split
  · cases firstAt y vs <;> rfl
  · rfl
/-! kinds -/
def isiK (tb : Nat → Bool) (v : Val) (h : Hv) : R Val := gIsi tb v h
@[simp] theorem gIsi_non {tb : Nat → Bool} : gIsi tb .non h = .ok (.bl (tb 0)) h := rfl
@[simp] theorem gIsi_bl {tb : Nat → Bool} {x : Bool} : gIsi tb (.bl x) h = .ok (.bl (tb 1)) h := rfl
@[simp] theorem gIsi_int {tb : Nat → Bool} {x : Int} : gIsi tb (.int x) h = .ok (.bl (tb 2)) h := rfl
@[simp] theorem gIsi_str {tb : Nat → Bool} {x : List Nat} : gIsi tb (.str x) h = .ok (.bl (tb 3)) h := rfl
@[simp] theorem gIsi_tup {tb : Nat → Bool} {x : List Val} : gIsi tb (.tup x) h = .ok (.bl (tb 4)) h := rfl
@[simp] theorem gIsi_fl {tb : Nat → Bool} {x : List Val} : gIsi tb (.fl x) h = .ok (.bl (tb 5)) h := rfl
@[simp] theorem gIsi_kl {tb : Nat → Bool} {x : List Val} : gIsi tb (.kl x) h = .ok (.bl (tb 5)) h := rfl
/-! built-ins -/
@[simp] theorem cInt_int {i : Int} : cInt [.int i] h = .ok (.int i) h := rfl
@[simp] theorem cInt_bl {i : Bool} : cInt [.bl i] h = .ok (.int (if i = true then 1 else 0)) h := rfl
@[simp] theorem cAbs_int {i : Int} : cAbs [.int i] h = .ok (.int (if i < 0 then -i else i)) h := rfl
@[simp] theorem cMax_int {i j : Int} : cMax [.int i, .int j] h = .ok (.int (if j > i then j else i)) h := rfl
@[simp] theorem cMin_int {i j : Int} : cMin [.int i, .int j] h = .ok (.int (if j < i then j else i)) h := rfl
@[simp] theorem cLen_fl {vs : List Val} : cLen [.fl vs] h = .ok (.int vs.length) h := rfl
@[simp] theorem cLen_kl {vs : List Val} : cLen [.kl vs] h = .ok (.int vs.length) h := rfl
@[simp] theorem cLen_tup {vs : List Val} : cLen [.tup vs] h = .ok (.int vs.length) h := rfl
@[simp] theorem cLen_str {x : List Nat} : cLen [.str x] h = if x.length ≤ 16777216 then .ok (.int x.length) h else .bad := rfl
@[simp] theorem cList_fl {vs : List Val} : cList [.fl vs] h = .ok (.fl vs) h := rfl
@[simp] theorem cList_kl {vs : List Val} : cList [.kl vs] h = .ok (.fl vs) h := rfl
@[simp] theorem cList_tup {vs : List Val} : cList [.tup vs] h = .ok (.fl vs) h := rfl
@[simp] theorem cListN_fl {vs : List Val} : cListN [.fl vs] h = .ok (.ref h.length) (h ++ [.lst vs]) := rfl
@[simp] theorem cListN_tup {vs : List Val} : cListN [.tup vs] h = .ok (.ref h.length) (h ++ [.lst vs]) := rfl
@[simp] theorem cTup_fl {vs : List Val} : cTup [.fl vs] h = .ok (.tup vs) h := rfl
@[simp] theorem cTup_tup {vs : List Val} : cTup [.tup vs] h = .ok (.tup vs) h := rfl
/-! places -/
def ixK (vs : List Val) (i : Int) (h : Hv) : R Val := match ixv vs i with
  | some v => .ok v h
  | none => .bad
@[simp] theorem gIx_fl {vs : List Val} {i : Int} : gIx (.fl vs) (.int i) h = ixK vs i h := rfl
@[simp] theorem gIx_kl {vs : List Val} {i : Int} : gIx (.kl vs) (.int i) h = ixK vs i h := rfl
@[simp] theorem gIx_tup {vs : List Val} {i : Int} : gIx (.tup vs) (.int i) h = ixK vs i h := rfl
theorem ixK_of {vs : List Val} {i : Int} (e : ixv vs i = some v) : ixK vs i h = .ok v h := by unfold ixK; rw [e]
theorem ixK_nat {vs : List Val} {i : Nat} (e : vs[i]? = some v) : ixK vs (i : Int) h = .ok v h := ixK_of (by unfold ixv; rw [if_pos (by omega)]; simpa using e)
@[simp] theorem ixK_lit {vs : List Val} {n : Nat} : ixK vs (no_index (OfNat.ofNat n)) h = match vs[n]? with | some v => .ok v h | none => .bad := by
  unfold ixK ixv
  rw [if_pos (by exact Int.natCast_nonneg n)]
  rfl
end
section
variable {sv : Env} {h : Hv} {a : SE}
@[simp] theorem sSl_app {l u : SO} : sSl a l u sv h = (a sv h).bind fun v h1 => (l sv h1).bind fun lo h2 => (u sv h2).bind fun hi h3 => gSl v lo hi h3 := rfl
@[simp] theorem sNo_app : sNo sv h = .ok none h := rfl
def partK : Val → Hv → R (Option Int)
  | .int i, h => .ok (some i) h
  | _, _ => .bad
@[simp] theorem partK_int {i : Int} : partK (.int i) h = .ok (some i) h := rfl
@[simp] theorem sPart_app : sPart a sv h = (a sv h).bind partK := by
  unfold sPart
  exact bind_congr fun v h1 => by cases v <;> rfl
theorem slB_nat {n d k : Nat} : slB n d (some (k : Int)) = min k n := by
  show (if (k : Int) < 0 then (max ((k : Int) + n) 0).toNat else min (k : Int).toNat n) = _
  rw [if_neg (by omega), Int.toNat_natCast]
theorem gSl_to {vs : List Val} {k : Nat} (hk : k ≤ vs.length) : gSl (.fl vs) none (some (k : Int)) h = .ok (.fl (vs.take k)) h := by
  show R.ok (Val.fl (cutL vs none (some (k : Int)))) h = _
  unfold cutL
  rw [slB_nat]
  show R.ok (Val.fl ((vs.drop 0).take (min k vs.length - 0))) h = _
  rw [List.drop_zero, Nat.sub_zero, Nat.min_eq_left hk]
theorem gSl_from {vs : List Val} {k : Nat} (hk : k ≤ vs.length) : gSl (.fl vs) (some (k : Int)) none h = .ok (.fl (vs.drop k)) h := by
  show R.ok (Val.fl (cutL vs (some (k : Int)) none)) h = _
  unfold cutL
  rw [slB_nat, Nat.min_eq_left hk]
  show R.ok (Val.fl ((vs.drop k).take (vs.length - k))) h = _
  rw [List.take_of_length_le (by rw [List.length_drop]; exact Nat.le_refl _)]
end
/-! ### what holds of a result -/
def Ok {α : Type} (r : R α) (P : α → Hv → Prop) : Prop := ∃ a h, r = .ok a h ∧ P a h
section
variable {α β : Type}
theorem Ok.bind {r : R α} {k : α → Hv → R β} {P : α → Hv → Prop} {Q : β → Hv → Prop} (h1 : Ok r P) (h2 : ∀ a h, P a h → Ok (k a h) Q) : Ok (r.bind k) Q := by
  obtain ⟨a, h, e, p⟩ := h1
  rw [e]
  exact h2 a h p
theorem Ok.imp {r : R α} {P Q : α → Hv → Prop} (h1 : Ok r P) (h2 : ∀ a h, P a h → Q a h) : Ok r Q := by
  obtain ⟨a, h, e, p⟩ := h1
  exact ⟨a, h, e, h2 a h p⟩
theorem Ok.of {a : α} {h : Hv} {P : α → Hv → Prop} (p : P a h) : Ok (.ok a h) P := ⟨a, h, rfl, p⟩
theorem Ok.eq {r : R α} {a : α} {h : Hv} {P : α → Hv → Prop} (e : r = .ok a h) (p : P a h) : Ok r P := ⟨a, h, e, p⟩
def forK (g : SG) (b : SS) (ys : List Val) : Fl → Hv → R Fl
  | .nx s, h => sForL g b ys s h
  | .ct s, h => sForL g b ys s h
  | .bk s, h => .ok (.nx s) h
  | .rt v, h => .ok (.rt v) h
theorem sForL_cons {g : SG} {b : SS} {v : Val} {vs : List Val} {sv : Env} {h : Hv} : sForL g b (v :: vs) sv h = (g v sv h).bind fun s1 h1 => (b s1 h1).bind (forK g b vs) :=
  bind_congr fun s1 h1 => bind_congr fun f h2 => by cases f <;> rfl
theorem sForL_nil {g : SG} {b : SS} {sv : Env} {h : Hv} : sForL g b [] sv h = .ok (.nx sv) h := rfl
/-- a loop by an invariant of the turn -/
theorem for_ok {g : SG} {b : SS} {xs : List Val} {sv : Env} {h : Hv} (I : Nat → Env → Hv → Prop) (h0 : I 0 sv h)
    (step : ∀ i v sv h, xs[i]? = some v → I i sv h → Ok (g v sv h) fun s1 h1 => Ok (b s1 h1) fun f h2 => ∃ s2, (f = .nx s2 ∨ f = .ct s2) ∧ I (i + 1) s2 h2) :
    Ok (sForL g b xs sv h) fun f h' => ∃ s', f = .nx s' ∧ I xs.length s' h' := by
  have key : ∀ (ys : List Val) (i : Nat) (sv : Env) (h : Hv), xs.drop i = ys → I i sv h → Ok (sForL g b ys sv h) fun f h' => ∃ s', f = .nx s' ∧ I (i + ys.length) s' h' := by
    intro ys
    induction ys with
    | nil => intro i sv h _ hI; exact ⟨_, _, rfl, sv, rfl, hI⟩
    | cons y ys ih =>
      intro i sv h e hI
      have hy : xs[i]? = some y := by
        have : (xs.drop i)[0]? = some y := by rw [e]; rfl
        rw [List.getElem?_drop] at this
        simpa using this
      obtain ⟨s1, h1, e1, f, h2, e2, s2, hf, hI2⟩ := step i y sv h hy hI
      have e' : xs.drop (i + 1) = ys := by
        have : (xs.drop i).drop 1 = ys := by rw [e]; rfl
        rw [List.drop_drop] at this
        exact this
      obtain ⟨f3, h3, e3, s3, hf3, hI3⟩ := ih (i + 1) s2 h2 e' hI2
      refine ⟨f3, h3, ?_, s3, hf3, by rw [List.length_cons]; rw [show i + (ys.length + 1) = i + 1 + ys.length by omega]; exact hI3⟩
      unfold sForL
      rw [e1]
      show (b s1 h1).bind _ = _
      rw [e2]
      rcases hf with hf | hf <;> (subst hf; exact e3)
  have := key xs 0 sv h rfl h0
  simpa using this
/-- a loop that may hand back a value or go on -/
theorem for_ok' {g : SG} {b : SS} {xs : List Val} {sv : Env} {h : Hv} {Q : Fl → Hv → Prop} (I : Nat → Env → Hv → Prop) (h0 : I 0 sv h)
    (step : ∀ i v sv h, xs[i]? = some v → I i sv h → Ok (g v sv h) fun s1 h1 => Ok (b s1 h1) fun f h2 => (∃ s2, (f = .nx s2 ∨ f = .ct s2) ∧ I (i + 1) s2 h2) ∨ (∃ s2, f = .bk s2 ∧ Q (.nx s2) h2) ∨ (∃ v, f = .rt v ∧ Q (.rt v) h2))
    (done : ∀ sv h, I xs.length sv h → Q (.nx sv) h) : Ok (sForL g b xs sv h) Q := by
  have key : ∀ (ys : List Val) (i : Nat) (sv : Env) (h : Hv), i + ys.length = xs.length → xs.drop i = ys → I i sv h → Ok (sForL g b ys sv h) Q := by
    intro ys
    induction ys with
    | nil =>
      intro i sv h hlen e hI
      have hi : i = xs.length := by simpa using hlen
      subst hi; exact ⟨_, _, rfl, done _ _ hI⟩
    | cons y ys ih =>
      intro i sv h hlen e hI
      rw [List.length_cons] at hlen
      have hy : xs[i]? = some y := by
        have : (xs.drop i)[0]? = some y := by rw [e]; rfl
        rw [List.getElem?_drop] at this
        simpa using this
      obtain ⟨s1, h1, e1, f, h2, e2, hf⟩ := step i y sv h hy hI
      have e' : xs.drop (i + 1) = ys := by
        have : (xs.drop i).drop 1 = ys := by rw [e]; rfl
        rw [List.drop_drop] at this
        exact this
      have eq : sForL g b (y :: ys) sv h = forK g b ys f h2 := by
        rw [sForL_cons, e1, bind_ok, e2, bind_ok]
      rw [eq]
      rcases hf with ⟨s2, hf, hI2⟩ | ⟨s2, hf, q⟩ | ⟨v, hf, q⟩
      · rcases hf with hf | hf <;> (subst hf; exact ih (i + 1) s2 h2 (by omega) e' hI2)
      · subst hf; exact ⟨_, _, rfl, q⟩
      · subst hf; exact ⟨_, _, rfl, q⟩
  exact key xs 0 sv h (by simp) rfl h0
def whK (c : ST) (b : SS) (n : Nat) : Fl → Hv → R Fl
  | .nx s, h => sWhile c b n s h
  | .ct s, h => sWhile c b n s h
  | .bk s, h => .ok (.nx s) h
  | .rt v, h => .ok (.rt v) h
theorem sWhile_s {c : ST} {b : SS} {n : Nat} {sv : Env} {h : Hv} : sWhile c b (n + 1) sv h = (c sv h).bind fun k h1 => if k = true then (b sv h1).bind (whK c b n) else .ok (.nx sv) h1 := by
  show (c sv h).bind _ = _
  refine bind_congr fun k h1 => ?_
  cases k
  · rfl
  · show (b sv h1).bind _ = _
    exact bind_congr fun f h2 => by cases f <;> rfl
/-- a while by an invariant and a measure -/
theorem while_ok {c : ST} {b : SS} {Q : Fl → Hv → Prop} (I : Env → Hv → Prop) (μ : Env → Hv → Nat)
    (step : ∀ sv h, I sv h → Ok (c sv h) fun k h1 => if k = true then Ok (b sv h1) fun f h2 => (∃ s2, (f = .nx s2 ∨ f = .ct s2) ∧ I s2 h2 ∧ μ s2 h2 < μ sv h) ∨ (∃ s2, f = .bk s2 ∧ Q (.nx s2) h2) ∨ (∃ v, f = .rt v ∧ Q (.rt v) h2) else Q (.nx sv) h1) :
    ∀ (n : Nat) (sv : Env) (h : Hv), I sv h → μ sv h < n → Ok (sWhile c b n sv h) Q := by
  intro n
  induction n with
  | zero => intro sv h _ hn; exact absurd hn (Nat.not_lt_zero _)
  | succ n ih =>
    intro sv h hI hn
    obtain ⟨k, h1, e1, p⟩ := step sv h hI
    rw [sWhile_s, e1, bind_ok]
    cases k with
    | false => rw [if_neg Bool.false_ne_true] at p ⊢; exact ⟨_, _, rfl, p⟩
    | true =>
      rw [if_pos rfl] at p ⊢
      obtain ⟨f, h2, e2, q⟩ := p
      rw [e2, bind_ok]
      rcases q with ⟨s2, hf, hI2, hμ⟩ | ⟨s2, hf, q⟩ | ⟨v, hf, q⟩
      · rcases hf with hf | hf <;> (subst hf; exact ih s2 h2 hI2 (by omega))
      · subst hf; exact ⟨_, _, rfl, q⟩
      · subst hf; exact ⟨_, _, rfl, q⟩
theorem big_lt {n : Nat} (h : n < 1000000000000) : n < bigN := h
/-- a comprehension whose elements are reckoned without change -/
theorem lcL_map {g : SG} {t : ST} {e : SE} {sv : Env} {h : Hv} {F : Val → Val} : ∀ (xs : List Val) (n : Nat), (∀ v ∈ xs, ∃ s1, g v sv h = .ok s1 h ∧ t s1 h = .ok true h ∧ e s1 h = .ok (F v) h) → n + xs.length ≤ 16777216 → sLcL g t e sv n xs h = .ok (xs.map F) h
  | [], _, _, _ => rfl
  | v :: vs, n, hv, hn => by
    obtain ⟨s1, h1, h2, h3⟩ := hv v List.mem_cons_self
    rw [List.length_cons] at hn
    have ih := lcL_map (F := F) vs (n + 1) (fun u hu => hv u (List.mem_cons_of_mem _ hu)) (by omega)
    show (g v sv h).bind _ = _
    rw [h1, bind_ok]
    show (t s1 h).bind _ = _
    rw [h2, bind_ok, if_pos rfl, h3, bind_ok, if_pos (by omega), ih]
    rfl
/-- a comprehension that changes the cells: by an invariant of what is made -/
theorem lcL_ok {g : SG} {t : ST} {e : SE} {sv : Env} {xs : List Val} (I : Nat → List Val → Hv → Prop) {h : Hv} (h0 : I 0 [] h)
    (step : ∀ i v acc h, xs[i]? = some v → I i acc h → acc.length ≤ i → Ok (g v sv h) fun s1 h1 => Ok (t s1 h1) fun k h2 => if k = true then Ok (e s1 h2) fun y h3 => I (i + 1) (acc ++ [y]) h3 else I (i + 1) acc h2) (hl : xs.length ≤ 16777216) :
    Ok (sLcL g t e sv 0 xs h) fun ys h' => I xs.length ys h' := by
  have key : ∀ (vs : List Val) (i : Nat) (acc : List Val) (h : Hv), i + vs.length = xs.length → xs.drop i = vs → I i acc h → acc.length ≤ i → Ok (sLcL g t e sv acc.length vs h) fun ys h' => I xs.length (acc ++ ys) h' := by
    intro vs
    induction vs with
    | nil =>
      intro i acc h hlen _ hI _
      have hi : i = xs.length := by simpa using hlen
      subst hi
      exact ⟨[], h, rfl, by show I xs.length (acc ++ []) h; rw [List.append_nil]; exact hI⟩
    | cons v vs ih =>
      intro i acc h hlen ed hI ha
      rw [List.length_cons] at hlen
      have hy : xs[i]? = some v := by
        have : (xs.drop i)[0]? = some v := by rw [ed]; rfl
        rw [List.getElem?_drop] at this
        simpa using this
      have e' : xs.drop (i + 1) = vs := by
        have : (xs.drop i).drop 1 = vs := by rw [ed]; rfl
        rw [List.drop_drop] at this
        exact this
      obtain ⟨s1, h1, e1, k, h2, e2, p⟩ := step i v acc h hy hI ha
      show Ok ((g v sv h).bind _) _
      rw [e1, bind_ok]
      show Ok ((t s1 h1).bind _) _
      rw [e2, bind_ok]
      cases k with
      | false =>
        rw [if_neg Bool.false_ne_true] at p
        exact ih (i + 1) acc h2 (by omega) e' p (by omega)
      | true =>
        rw [if_pos rfl] at p
        obtain ⟨y, h3, e3, hI3⟩ := p
        show Ok ((e s1 h2).bind _) _
        rw [e3, bind_ok, if_pos (by omega)]
        have q := ih (i + 1) (acc ++ [y]) h3 (by omega) e' hI3 (by rw [List.length_append, List.length_singleton]; omega)
        rw [List.length_append, List.length_singleton] at q
        refine Ok.bind q fun ys h4 q4 => ⟨_, _, rfl, ?_⟩
        have ea : acc ++ y :: ys = acc ++ [y] ++ ys := by simp
        show I xs.length (acc ++ y :: ys) h4
        rw [ea]; exact q4
  have := key xs 0 [] h (by simp) rfl h0 (Nat.le_refl _)
  simpa using this
end
end Sx

set_option Elab.async false
set_option linter.all false
/-! SxMath: words and their operators, in plain Lean. -/
namespace Wd
open PySem
def wrapW (n : Int) : Int := if n % 4294967296 > 2147483647 then n % 4294967296 - 4294967296 else n % 4294967296
def isW (n : Int) : Prop := -2147483648 ≤ n ∧ n ≤ 2147483647
instance (n : Int) : Decidable (isW n) := inferInstanceAs (Decidable (_ ∧ _))
theorem wrap_w (n : Int) : isW (wrapW n) := by unfold wrapW isW; split <;> omega
theorem wrap_id {n : Int} (h : isW n) : wrapW n = n := by unfold wrapW; unfold isW at h; split <;> omega
theorem wrap_mod (n : Int) : wrapW n % 4294967296 = n % 4294967296 := by unfold wrapW; split <;> omega
theorem wrap_eq {n m : Int} (h : n % 4294967296 = m % 4294967296) : wrapW n = wrapW m := by unfold wrapW; rw [h]
theorem wrap_law (n : Int) : (n + 2147483648) % 4294967296 - 2147483648 = wrapW n := by unfold wrapW; split <;> omega
theorem wrap_wrap (n : Int) : wrapW (wrapW n) = wrapW n := wrap_id (wrap_w n)
theorem wrap_iff {n m : Int} : wrapW n = wrapW m ↔ n % 4294967296 = m % 4294967296 := ⟨fun h => by rw [← wrap_mod n, ← wrap_mod m, h], wrap_eq⟩
/-! bits -/
/-- k bits of two numbers, one by one -/
def F (f : Int → Int → Int) : Nat → Int → Int → Int
  | 0, _, _ => 0
  | k + 1, x, y => f (x % 2) (y % 2) + 2 * F f k (x / 2) (y / 2)
theorem F_end (f : Int → Int → Int) : ∀ (k : Nat) (x y : Int), F f (k + 1) x y = F f k x y + f (x / 2 ^ k % 2) (y / 2 ^ k % 2) * 2 ^ k
  | 0, x, y => by simp [F]
  | k + 1, x, y => by
    have h := F_end f k (x / 2) (y / 2)
    have e : ∀ z : Int, z / 2 / 2 ^ k = z / 2 ^ (k + 1) := fun z => by
      rw [Int.ediv_ediv_of_nonneg (by decide), Int.pow_succ, Int.mul_comm]
    rw [e, e] at h
    show f (x % 2) (y % 2) + 2 * F f (k + 1) (x / 2) (y / 2) = f (x % 2) (y % 2) + 2 * F f k (x / 2) (y / 2) + f (x / 2 ^ (k + 1) % 2) (y / 2 ^ (k + 1) % 2) * 2 ^ (k + 1)
    rw [h, Int.pow_succ]
    generalize f (x / 2 ^ (k + 1) % 2) (y / 2 ^ (k + 1) % 2) = c
    generalize (2 : Int) ^ k = p
    rw [Int.mul_add, Int.add_assoc]
    congr 2
    rw [Int.mul_left_comm, Int.mul_comm 2 p]
def Bit (f : Int → Int → Int) : Prop := ∀ b c, (b = 0 ∨ b = 1) → (c = 0 ∨ c = 1) → f b c = 0 ∨ f b c = 1
theorem m2 (x : Int) : x % 2 = 0 ∨ x % 2 = 1 := by omega
theorem F_lt {f : Int → Int → Int} (hf : Bit f) : ∀ (k : Nat) (x y : Int), 0 ≤ F f k x y ∧ F f k x y < 2 ^ k
  | 0, _, _ => by simp [F]
  | k + 1, x, y => by
    have h := F_lt hf k (x / 2) (y / 2)
    have hb := hf (x % 2) (y % 2) (m2 x) (m2 y)
    unfold F
    rw [Int.pow_succ]
    omega
theorem F_low {f : Int → Int → Int} (hf : Bit f) (k : Nat) (x y : Int) : F f (k + 1) x y % 2 = f (x % 2) (y % 2) ∧ F f (k + 1) x y / 2 = F f k (x / 2) (y / 2) := by
  have hb := hf (x % 2) (y % 2) (m2 x) (m2 y)
  have e : F f (k + 1) x y = f (x % 2) (y % 2) + 2 * F f k (x / 2) (y / 2) := rfl
  rw [e]
  omega
theorem F_assoc {f : Int → Int → Int} (hf : Bit f) (ha : ∀ b c d, (b = 0 ∨ b = 1) → (c = 0 ∨ c = 1) → (d = 0 ∨ d = 1) → f (f b c) d = f b (f c d)) : ∀ (k : Nat) (x y z : Int), F f k (F f k x y) z = F f k x (F f k y z)
  | 0, _, _, _ => rfl
  | k + 1, x, y, z => by
    have h1 := F_low hf k x y
    have h2 := F_low hf k y z
    show f (F f (k + 1) x y % 2) (z % 2) + 2 * F f k (F f (k + 1) x y / 2) (z / 2) = f (x % 2) (F f (k + 1) y z % 2) + 2 * F f k (x / 2) (F f (k + 1) y z / 2)
    rw [h1.1, h1.2, h2.1, h2.2, ha _ _ _ (m2 x) (m2 y) (m2 z), F_assoc hf ha k]
theorem F_comm {f : Int → Int → Int} (hc : ∀ b c, (b = 0 ∨ b = 1) → (c = 0 ∨ c = 1) → f b c = f c b) : ∀ (k : Nat) (x y : Int), F f k x y = F f k y x
  | 0, _, _ => rfl
  | k + 1, x, y => by unfold F; rw [hc _ _ (m2 x) (m2 y), F_comm hc k]
theorem half_mod {x x' p : Int} (h : x % (2 * p) = x' % (2 * p)) (hp : 0 < p) : x % 2 = x' % 2 ∧ x / 2 % p = x' / 2 % p := by
  have e1 : x % (2 * p) % 2 = x % 2 := Int.emod_emod_of_dvd x ⟨p, rfl⟩
  have e2 : x' % (2 * p) % 2 = x' % 2 := Int.emod_emod_of_dvd x' ⟨p, rfl⟩
  refine ⟨by rw [← e1, ← e2, h], ?_⟩
  have a1 := Int.emod_add_mul_ediv x (2 * p)
  have a2 := Int.emod_add_mul_ediv x' (2 * p)
  have b1 : x / 2 = x % (2 * p) / 2 + p * (x / (2 * p)) := by
    have : x = x % (2 * p) + 2 * (p * (x / (2 * p))) := by rw [← Int.mul_assoc]; omega
    generalize p * (x / (2 * p)) = q at this ⊢
    omega
  have b2 : x' / 2 = x' % (2 * p) / 2 + p * (x' / (2 * p)) := by
    have : x' = x' % (2 * p) + 2 * (p * (x' / (2 * p))) := by rw [← Int.mul_assoc]; omega
    generalize p * (x' / (2 * p)) = q at this ⊢
    omega
  rw [b1, b2, Int.add_mul_emod_self_left, Int.add_mul_emod_self_left, h]
theorem F_modl {f : Int → Int → Int} : ∀ (k : Nat) {x x' : Int} (y : Int), x % 2 ^ k = x' % 2 ^ k → F f k x y = F f k x' y
  | 0, _, _, _, _ => rfl
  | k + 1, x, x', y, h => by
    rw [Int.pow_succ, Int.mul_comm] at h
    obtain ⟨h1, h2⟩ := half_mod h (Int.pow_pos (by decide))
    unfold F
    rw [h1, F_modl k (y / 2) h2]
theorem F_modr {f : Int → Int → Int} : ∀ (k : Nat) (x : Int) {y y' : Int}, y % 2 ^ k = y' % 2 ^ k → F f k x y = F f k x y'
  | 0, _, _, _, _ => rfl
  | k + 1, x, y, y', h => by
    rw [Int.pow_succ, Int.mul_comm] at h
    obtain ⟨h1, h2⟩ := half_mod h (Int.pow_pos (by decide))
    unfold F
    rw [h1, F_modr k (x / 2) h2]
theorem mod_step (x : Int) (k : Nat) : x % 2 ^ (k + 1) = x % 2 + 2 * (x / 2 % 2 ^ k) := by
  have h1 : x % 2 ^ (k + 1) = (x % 2 + 2 * (x / 2 % 2 ^ k)) % 2 ^ (k + 1) := by
    have e : x = x % 2 + 2 * (x / 2 % 2 ^ k) + 2 ^ (k + 1) * (x / 2 / 2 ^ k) := by
      have a := Int.emod_add_mul_ediv (x / 2) (2 ^ k)
      rw [Int.pow_succ, Int.mul_comm (2 ^ k) 2, Int.mul_assoc]
      generalize (2 : Int) ^ k * (x / 2 / 2 ^ k) = q at a ⊢
      omega
    calc x % 2 ^ (k + 1) = (x % 2 + 2 * (x / 2 % 2 ^ k) + 2 ^ (k + 1) * (x / 2 / 2 ^ k)) % 2 ^ (k + 1) := by rw [← e]
      _ = _ := Int.add_mul_emod_self_left ..
  have hp : (0 : Int) < 2 ^ k := Int.pow_pos (by decide)
  have h2 := Int.emod_nonneg (x / 2) (Int.ne_of_gt hp)
  have h3 := Int.emod_lt_of_pos (x / 2) hp
  rw [h1]
  refine Int.emod_eq_of_lt (by omega) ?_
  rw [Int.pow_succ]
  omega
/-- a bit that is as it is by a neutral one -/
theorem F_neutral {f : Int → Int → Int} {y : Int} (hy : y / 2 = y) (hn : ∀ b, (b = 0 ∨ b = 1) → f b (y % 2) = b) : ∀ (k : Nat) (x : Int), F f k x y = x % 2 ^ k
  | 0, x => by simp [F]
  | k + 1, x => by
    rw [mod_step]
    unfold F
    rw [hn _ (m2 x), hy, F_neutral hy hn k]
def fAnd (b c : Int) : Int := b * c
def fOr (b c : Int) : Int := if b > c then b else c
def fXor (b c : Int) : Int := (b + c) % 2
theorem natAnd (m n : Nat) : ((m &&& n : Nat) : Int) = ((m % 2 * (n % 2) : Nat) : Int) + 2 * ((m / 2 &&& n / 2 : Nat) : Int) := by
  have h1 : (m &&& n) / 2 = m / 2 &&& n / 2 := Nat.and_div_two ..
  have h2 : (m &&& n) % 2 = m % 2 * (n % 2) := by
    rcases Nat.mod_two_eq_zero_or_one m with a | a <;> rcases Nat.mod_two_eq_zero_or_one n with b | b <;> rw [a, b] <;> have := Nat.and_mod_two_eq_one (a := m) (b := n) <;> omega
  omega
theorem natOr (m n : Nat) : ((m ||| n : Nat) : Int) = (m : Int) + n - ((m &&& n : Nat) : Int) := by
  have := PyProof.Rows.nat_or_add_and m n
  omega
theorem int_form (x : Int) : (∃ m : Nat, x = m) ∨ ∃ m : Nat, x = -(m : Int) - 1 := by
  by_cases h : 0 ≤ x
  · exact .inl ⟨x.toNat, by omega⟩
  · exact .inr ⟨(-x - 1).toNat, by omega⟩
theorem and_pp (m n : Nat) : Builtin.bitAnd (m : Int) n = ((m &&& n : Nat) : Int) := by
  rw [PyProof.Rows.bitAnd_pp (by omega) (by omega), Int.toNat_natCast, Int.toNat_natCast]
theorem not_neg (n : Nat) : (Builtin.bitNot (-(n : Int) - 1)).toNat = n := by unfold Builtin.bitNot; omega
theorem and_pn (m n : Nat) : Builtin.bitAnd (m : Int) (-(n : Int) - 1) = (m : Int) - ((m &&& n : Nat) : Int) := by
  rw [PyProof.Rows.bitAnd_pn (by omega) (by omega), Int.toNat_natCast, not_neg]
theorem and_np (m n : Nat) : Builtin.bitAnd (-(n : Int) - 1) (m : Int) = (m : Int) - ((m &&& n : Nat) : Int) := by
  rw [PyProof.Rows.bitAnd_np (by omega) (by omega), Int.toNat_natCast, not_neg]
theorem and_nn (m n : Nat) : Builtin.bitAnd (-(m : Int) - 1) (-(n : Int) - 1) = -((m ||| n : Nat) : Int) - 1 := by
  rw [PyProof.Rows.bitAnd_nn (by omega) (by omega), not_neg, not_neg]; rfl
theorem neg_half (n : Nat) : (-(n : Int) - 1) / 2 = -((n / 2 : Nat) : Int) - 1 := by omega
theorem neg_two (n : Nat) : (-(n : Int) - 1) % 2 = 1 - ((n % 2 : Nat) : Int) := by omega
theorem pos_half (n : Nat) : (n : Int) / 2 = ((n / 2 : Nat) : Int) := by omega
theorem pos_two (n : Nat) : (n : Int) % 2 = ((n % 2 : Nat) : Int) := by omega
theorem bitAnd_step (x y : Int) : Builtin.bitAnd x y = (x % 2) * (y % 2) + 2 * Builtin.bitAnd (x / 2) (y / 2) := by
  have key : ∀ m n : Nat, ((m &&& n : Nat) : Int) = ((m % 2 * (n % 2) : Nat) : Int) + 2 * ((m / 2 &&& n / 2 : Nat) : Int) := natAnd
  have orr : ∀ m n : Nat, ((m ||| n : Nat) : Int) = (m : Int) + n - ((m &&& n : Nat) : Int) := natOr
  rcases int_form x with ⟨m, rfl⟩ | ⟨m, rfl⟩ <;> rcases int_form y with ⟨n, rfl⟩ | ⟨n, rfl⟩
  · rw [pos_half, pos_half, pos_two, pos_two, and_pp, and_pp, key m n]
    push_cast
    omega
  · rw [pos_half, neg_half, pos_two, neg_two, and_pn, and_pn, key m n]
    rcases Nat.mod_two_eq_zero_or_one m with a | a <;> rcases Nat.mod_two_eq_zero_or_one n with b | b <;> rw [a, b] <;> omega
  · rw [neg_half, pos_half, neg_two, pos_two, and_np, and_np, key n m]
    rcases Nat.mod_two_eq_zero_or_one m with a | a <;> rcases Nat.mod_two_eq_zero_or_one n with b | b <;> rw [a, b] <;> omega
  · rw [neg_half, neg_half, neg_two, neg_two, and_nn, and_nn, orr, orr, key m n]
    rcases Nat.mod_two_eq_zero_or_one m with a | a <;> rcases Nat.mod_two_eq_zero_or_one n with b | b <;> rw [a, b] <;> omega
theorem bitAnd_F : ∀ (k : Nat) (x y : Int), Builtin.bitAnd x y % 2 ^ k = F fAnd k x y
  | 0, x, y => by simp [F]
  | k + 1, x, y => by
    have e : ∀ z : Int, F fAnd (k + 1) x y = (x % 2) * (y % 2) + 2 * F fAnd k (x / 2) (y / 2) := fun _ => rfl
    rw [mod_step, e 0]
    have h := bitAnd_step x y
    have hb : (x % 2) * (y % 2) = 0 ∨ (x % 2) * (y % 2) = 1 := by
      rcases m2 x with a | a <;> rcases m2 y with b | b <;> rw [a, b] <;> simp
    have h1 : Builtin.bitAnd x y % 2 = (x % 2) * (y % 2) := by omega
    have h2 : Builtin.bitAnd x y / 2 = Builtin.bitAnd (x / 2) (y / 2) := by omega
    rw [h1, h2, bitAnd_F k]
theorem F_or : ∀ (k : Nat) (x y : Int), F fOr k x y = x % 2 ^ k + y % 2 ^ k - F fAnd k x y
  | 0, x, y => by simp [F]
  | k + 1, x, y => by
    have e1 : F fOr (k + 1) x y = fOr (x % 2) (y % 2) + 2 * F fOr k (x / 2) (y / 2) := rfl
    have e2 : F fAnd (k + 1) x y = fAnd (x % 2) (y % 2) + 2 * F fAnd k (x / 2) (y / 2) := rfl
    have hb : fOr (x % 2) (y % 2) = x % 2 + y % 2 - fAnd (x % 2) (y % 2) := by
      unfold fOr fAnd
      rcases m2 x with a | a <;> rcases m2 y with b | b <;> rw [a, b] <;> simp
    rw [e1, e2, mod_step, mod_step, F_or k, hb]
    omega
theorem F_xor : ∀ (k : Nat) (x y : Int), F fXor k x y = x % 2 ^ k + y % 2 ^ k - 2 * F fAnd k x y
  | 0, x, y => by simp [F]
  | k + 1, x, y => by
    have e1 : F fXor (k + 1) x y = fXor (x % 2) (y % 2) + 2 * F fXor k (x / 2) (y / 2) := rfl
    have e2 : F fAnd (k + 1) x y = fAnd (x % 2) (y % 2) + 2 * F fAnd k (x / 2) (y / 2) := rfl
    have hb : fXor (x % 2) (y % 2) = x % 2 + y % 2 - 2 * fAnd (x % 2) (y % 2) := by
      unfold fXor fAnd
      rcases m2 x with a | a <;> rcases m2 y with b | b <;> rw [a, b] <;> simp
    rw [e1, e2, mod_step, mod_step, F_xor k, hb]
    omega
theorem F_range {f : Int → Int → Int} (hf : Bit f) (x y : Int) : F f 32 x y % 4294967296 = F f 32 x y := by
  have h := F_lt hf 32 x y
  exact Int.emod_eq_of_lt h.1 h.2
theorem bit_and : Bit fAnd := by intro b c hb hc; unfold fAnd; rcases hb with rfl | rfl <;> rcases hc with rfl | rfl <;> simp
theorem bit_or : Bit fOr := by intro b c hb hc; unfold fOr; rcases hb with rfl | rfl <;> rcases hc with rfl | rfl <;> simp
theorem bit_xor : Bit fXor := by intro b c hb hc; unfold fXor; rcases hb with rfl | rfl <;> rcases hc with rfl | rfl <;> simp
theorem and_mod (x y : Int) : Builtin.bitAnd x y % 4294967296 = F fAnd 32 x y := bitAnd_F 32 x y
theorem or_mod (x y : Int) : Builtin.bitOr x y % 4294967296 = F fOr 32 x y := by
  have h := F_or 32 x y
  have h1 := and_mod x y
  have h2 := F_lt bit_or 32 x y
  rw [PyProof.Rows.bitOr_and]
  simp only [Int.reducePow] at h h2
  omega
theorem xor_mod (x y : Int) : Builtin.bitXor x y % 4294967296 = F fXor 32 x y := by
  have h := F_xor 32 x y
  have h1 := and_mod x y
  have h2 := F_lt bit_xor 32 x y
  rw [PyProof.Rows.bitXor_and]
  simp only [Int.reducePow] at h h2
  omega
end Wd
namespace Wd
open PySem
/-- the quotient rounded towards 0 -/
def divW (a b : Int) : Int := if b = 0 then 0 else if (a < 0) ≠ (b < 0) then -((if a < 0 then -a else a) / (if b < 0 then -b else b)) else (if a < 0 then -a else a) / (if b < 0 then -b else b)
def t_add : List Nat := [97, 100, 100]
def t_sub : List Nat := [115, 117, 98]
def t_mul : List Nat := [109, 117, 108]
def t_div : List Nat := [100, 105, 118]
def t_rem : List Nat := [114, 101, 109]
def t_and : List Nat := [97, 110, 100]
def t_or : List Nat := [111, 114]
def t_xor : List Nat := [120, 111, 114]
def t_shl : List Nat := [115, 104, 108]
def t_shr : List Nat := [115, 104, 114]
def t_lt : List Nat := [108, 116]
def t_le : List Nat := [108, 101]
def t_eq : List Nat := [101, 113]
def t_ne : List Nat := [110, 101]
def t_min : List Nat := [109, 105, 110]
def t_max : List Nat := [109, 97, 120]
def t_neg : List Nat := [110, 101, 103]
def t_not : List Nat := [110, 111, 116]
def t_zero : List Nat := [122, 101, 114, 111]
def BINS : List (List Nat) := [t_add, t_sub, t_mul, t_div, t_rem, t_and, t_or, t_xor, t_shl, t_shr, t_lt, t_le, t_eq, t_ne, t_min, t_max]
def FOLDS : List (List Nat) := [t_add, t_min, t_max, t_and, t_or, t_xor]
def UNS : List (List Nat) := [t_neg, t_not, t_zero]
def b2 (p : Bool) : Int := if p = true then 1 else 0
def binW (op : List Nat) (a b : Int) : Int :=
  if op = t_add then wrapW (a + b) else if op = t_sub then wrapW (a - b) else if op = t_mul then wrapW (a * b) else
  if op = t_div then wrapW (divW a b) else if op = t_rem then wrapW (if b = 0 then 0 else a - divW a b * b) else
  if op = t_and then wrapW (F fAnd 32 a b) else if op = t_or then wrapW (F fOr 32 a b) else if op = t_xor then wrapW (F fXor 32 a b) else
  if op = t_shl then wrapW (a * 2 ^ (b % 32).toNat) else if op = t_shr then wrapW (a / 2 ^ (b % 32).toNat) else
  if op = t_lt then b2 (decide (a < b)) else if op = t_le then b2 (decide (a ≤ b)) else if op = t_eq then b2 (decide (a = b)) else if op = t_ne then b2 (!decide (a = b)) else
  if op = t_min then (if b < a then b else a) else if op = t_max then (if b > a then b else a) else 0
theorem isW_ite {c : Prop} [Decidable c] {x y : Int} (h1 : isW x) (h2 : isW y) : isW (if c then x else y) := by split <;> assumption
theorem b2_w (p : Bool) : isW (b2 p) := by unfold b2 isW; cases p <;> decide
theorem binW_w {a b : Int} (ha : isW a) (hb : isW b) (op : List Nat) : isW (binW op a b) := by
  unfold binW
  repeat' (with_reducible refine isW_ite ?_ ?_)
  all_goals first | exact wrap_w _ | exact b2_w _ | assumption | exact ⟨by decide, by decide⟩
def unW (op : List Nat) (a : Int) : Int := if op = t_neg then wrapW (-a) else if op = t_not then wrapW (-a - 1) else b2 (decide (a = 0))
def neuW (op : List Nat) : Int := if op = t_min then 2147483647 else if op = t_max then -2147483648 else if op = t_and then -1 else 0
def foldW (op : List Nat) (ws : List Int) : Int := ws.foldl (binW op) (neuW op)
theorem neu_w (op : List Nat) : isW (neuW op) := isW_ite ⟨by decide, by decide⟩ (isW_ite ⟨by decide, by decide⟩ (isW_ite ⟨by decide, by decide⟩ ⟨by decide, by decide⟩))
theorem fold_w {op : List Nat} : ∀ {ws : List Int} {x : Int}, isW x → (∀ w ∈ ws, isW w) → isW (ws.foldl (binW op) x)
  | [], _, h, _ => h
  | w :: ws, x, h, hw => by
    rw [List.foldl_cons]
    exact fold_w (binW_w h (hw w List.mem_cons_self) op) fun v hv => hw v (List.mem_cons_of_mem _ hv)
/-! operators that fold: neutral, associative, commutative -/
theorem bin_neutral {op : List Nat} (h : op ∈ FOLDS) {a : Int} (ha : isW a) : binW op a (neuW op) = a := by
  have hF : ∀ {f : Int → Int → Int} {y : Int}, y / 2 = y → (∀ b, (b = 0 ∨ b = 1) → f b (y % 2) = b) → wrapW (F f 32 a y) = a := fun {f y} hy hn => by
    rw [F_neutral hy hn]
    have : a % 2 ^ 32 % 4294967296 = a % 4294967296 := Int.emod_emod_of_dvd a ⟨1, by decide⟩
    rw [wrap_eq this, wrap_id ha]
  unfold isW at ha
  simp only [FOLDS, List.mem_cons, List.not_mem_nil, or_false] at h
  rcases h with rfl | rfl | rfl | rfl | rfl | rfl
  · show wrapW (a + 0) = a; rw [Int.add_zero]; exact wrap_id ha
  · show (if (2147483647 : Int) < a then (2147483647 : Int) else a) = a; split <;> omega
  · show (if (-2147483648 : Int) > a then (-2147483648 : Int) else a) = a; split <;> omega
  · show wrapW (F fAnd 32 a (-1)) = a; exact hF (by decide) fun b hb => by unfold fAnd; rcases hb with rfl | rfl <;> decide
  · show wrapW (F fOr 32 a 0) = a; exact hF (by decide) fun b hb => by unfold fOr; rcases hb with rfl | rfl <;> decide
  · show wrapW (F fXor 32 a 0) = a; exact hF (by decide) fun b hb => by unfold fXor; rcases hb with rfl | rfl <;> decide
theorem bin_comm {op : List Nat} (h : op ∈ FOLDS) (a b : Int) : binW op a b = binW op b a := by
  simp only [FOLDS, List.mem_cons, List.not_mem_nil, or_false] at h
  rcases h with rfl | rfl | rfl | rfl | rfl | rfl
  · show wrapW (a + b) = wrapW (b + a); rw [Int.add_comm]
  · show (if b < a then b else a) = (if a < b then a else b); split <;> split <;> omega
  · show (if b > a then b else a) = (if a > b then a else b); split <;> split <;> omega
  · show wrapW _ = wrapW _; rw [F_comm (f := fAnd) fun b c _ _ => Int.mul_comm b c]
  · show wrapW _ = wrapW _; rw [F_comm (f := fOr) fun b c _ _ => by unfold fOr; split <;> split <;> omega]
  · show wrapW _ = wrapW _; rw [F_comm (f := fXor) fun b c _ _ => by unfold fXor; rw [Int.add_comm]]
theorem bin_assoc {op : List Nat} (h : op ∈ FOLDS) (a b c : Int) : binW op (binW op a b) c = binW op a (binW op b c) := by
  have hF : ∀ {f : Int → Int → Int}, Bit f → (∀ b c d, (b = 0 ∨ b = 1) → (c = 0 ∨ c = 1) → (d = 0 ∨ d = 1) → f (f b c) d = f b (f c d)) → wrapW (F f 32 (wrapW (F f 32 a b)) c) = wrapW (F f 32 a (wrapW (F f 32 b c))) := fun {f} hb hf => by
    rw [F_modl (k := 32) (x := wrapW (F f 32 a b)) (x' := F f 32 a b) c (wrap_mod _), F_modr 32 a (y := wrapW (F f 32 b c)) (y' := F f 32 b c) (wrap_mod _), F_assoc hb hf]
  simp only [FOLDS, List.mem_cons, List.not_mem_nil, or_false] at h
  rcases h with rfl | rfl | rfl | rfl | rfl | rfl
  · show wrapW (wrapW (a + b) + c) = wrapW (a + wrapW (b + c))
    have h1 := wrap_mod (a + b)
    have h2 := wrap_mod (b + c)
    exact wrap_eq (by omega)
  · show (if c < (if b < a then b else a) then c else (if b < a then b else a)) = (if (if c < b then c else b) < a then (if c < b then c else b) else a)
    repeat' split
    all_goals omega
  · show (if c > (if b > a then b else a) then c else (if b > a then b else a)) = (if (if c > b then c else b) > a then (if c > b then c else b) else a)
    repeat' split
    all_goals omega
  · exact hF bit_and fun b c d _ _ _ => Int.mul_assoc b c d
  · exact hF bit_or fun b c d hb hc hd => by unfold fOr; rcases hb with rfl | rfl <;> rcases hc with rfl | rfl <;> rcases hd with rfl | rfl <;> decide
  · exact hF bit_xor fun b c d hb hc hd => by unfold fXor; rcases hb with rfl | rfl <;> rcases hc with rfl | rfl <;> rcases hd with rfl | rfl <;> decide
theorem fold_from {op : List Nat} (h : op ∈ FOLDS) : ∀ (ws : List Int) {x : Int}, isW x → (∀ w ∈ ws, isW w) → ws.foldl (binW op) x = binW op x (foldW op ws)
  | [], x, hx, _ => by show x = binW op x (neuW op); rw [bin_neutral h hx]
  | w :: ws, x, hx, hw => by
    have hw0 := hw w List.mem_cons_self
    have hws := fun v hv => hw v (List.mem_cons_of_mem _ hv)
    show ws.foldl (binW op) (binW op x w) = binW op x (ws.foldl (binW op) (binW op (neuW op) w))
    rw [fold_from h ws (binW_w hx hw0 op) hws, bin_comm h (neuW op) w, bin_neutral h hw0, fold_from h ws hw0 hws, bin_assoc h]
theorem fold_append {op : List Nat} (h : op ∈ FOLDS) {xs ys : List Int} (hx : ∀ w ∈ xs, isW w) (hy : ∀ w ∈ ys, isW w) : binW op (foldW op xs) (foldW op ys) = foldW op (xs ++ ys) := by
  show binW op (foldW op xs) (foldW op ys) = (xs ++ ys).foldl (binW op) (neuW op)
  rw [List.foldl_append]
  exact (fold_from h ys (fold_w (neu_w op) hx) hy).symm
theorem fold_perm {op : List Nat} (h : op ∈ FOLDS) {xs ys : List Int} (p : xs.Perm ys) : ∀ {x : Int}, xs.foldl (binW op) x = ys.foldl (binW op) x := by
  induction p with
  | nil => intro x; rfl
  | cons a _ ih => intro x; exact ih
  | swap a b l =>
    intro x
    show l.foldl (binW op) (binW op (binW op x b) a) = l.foldl (binW op) (binW op (binW op x a) b)
    rw [bin_assoc h, bin_assoc h, bin_comm h b a]
  | trans _ _ ih1 ih2 => intro x; rw [ih1, ih2]
theorem div_rem {a b : Int} (ha : isW a) : binW t_add (binW t_mul b (binW t_div a b)) (binW t_rem a b) = if b ≠ 0 then a else 0 := by
  show wrapW (wrapW (b * wrapW (divW a b)) + wrapW (if b = 0 then 0 else a - divW a b * b)) = _
  by_cases hb : b = 0
  · subst hb
    rw [if_pos rfl, if_neg (by simp), Int.zero_mul]
    decide
  · rw [if_neg hb, if_pos hb]
    have h1 := wrap_mod (b * wrapW (divW a b))
    have h2 := wrap_mod (a - divW a b * b)
    have h3 : b * wrapW (divW a b) % 4294967296 = b * divW a b % 4294967296 := by
      rw [Int.mul_emod, wrap_mod, ← Int.mul_emod]
    have h4 : b * divW a b = divW a b * b := Int.mul_comm _ _
    rw [← wrap_id ha]
    rw [wrap_iff, wrap_id ha]
    rw [h4] at h3
    generalize divW a b * b = q at *
    omega
theorem pow_small {k : Nat} (hk : k < 32) : (0 : Int) < 2 ^ k ∧ (2 : Int) ^ k < 1000000000000 := by
  have h1 : (2 : Nat) ^ k ≤ 2 ^ 31 := Nat.pow_le_pow_right (by decide) (by omega)
  have h2 : (2 : Int) ^ k = ((2 ^ k : Nat) : Int) := by rw [Int.natCast_pow]; rfl
  have h3 : (2 : Nat) ^ 31 = 2147483648 := by decide
  have h4 : 0 < (2 : Nat) ^ k := Nat.pow_pos (by decide)
  rw [h2]
  omega
end Wd

set_option Elab.async false
set_option linter.all false
set_option maxRecDepth 100000
/-! SxLaw: what every law begins with: the stream of draws. -/
namespace Sx
section
variable {h : Hv} {v : Val}
@[simp] theorem gSub'_app {fo fi : SE} {sv : Env} : gSub' fo fi v sv h = (fo sv h).bind fun o h1 => (fi sv h1).bind fun i h2 => (cSet o i v h2).bind fun _ h3 => .ok sv h3 := rfl
/-! by the cell -/
def cellAt (h : Hv) (n : Nat) : Option Cell := h[n]?
theorem cellAt_of {n : Nat} {c : Cell} (e : h[n]? = some c) : cellAt h n = some c := e
theorem cellAt_lt {n : Nat} {c : Cell} (e : cellAt h n = some c) : n < h.length := (List.getElem?_eq_some_iff.mp e).1
@[simp] theorem cellAt_self {n : Nat} {c : Cell} : cellAt (h.set n c) n = if n < h.length then some c else none := by
  unfold cellAt
  split
  · rw [List.getElem?_set_self (by assumption)]
  · rw [List.getElem?_eq_none (by rw [List.length_set]; omega)]
theorem cellAt_ne {n m : Nat} {c : Cell} (e : m ≠ n) : cellAt (h.set m c) n = cellAt h n := by unfold cellAt; rw [List.getElem?_set_ne e]
@[simp] theorem cellAt_new {c : Cell} : cellAt (h ++ [c]) h.length = some c := by unfold cellAt; simp
theorem cellAt_old {n : Nat} {c : Cell} (e : n < h.length) : cellAt (h ++ [c]) n = cellAt h n := by unfold cellAt; rw [List.getElem?_append_left e]
@[simp] theorem cellAt_0 {c : Cell} : cellAt (c :: h) 0 = some c := rfl
@[simp] theorem cellAt_s {c : Cell} {n : Nat} : cellAt (c :: h) (n + 1) = cellAt h n := rfl
def lstK? {α : Type} (g : List Val → Hv → R α) : Option Cell → Hv → R α
  | some (.lst vs), h => g vs h
  | _, _ => .bad
@[simp] theorem lstK?_lst {α : Type} {g : List Val → Hv → R α} {vs : List Val} : lstK? g (some (.lst vs)) h = g vs h := rfl
@[simp] theorem gIx_ref' {n : Nat} {i : Int} : gIx (.ref n) (.int i) h = lstK? (fun vs h => ixK vs i h) (cellAt h n) h := by
  unfold gIx Val.items lstK?
  unfold cellAt
  simp only
  generalize h[n]? = z
  cases z with
  | none => rfl
  | some c => cases c <;> rfl
def setK (n : Nat) (i : Int) (v : Val) (vs : List Val) (h : Hv) : R Val := match ixv vs i with
  | some _ => .ok .non (h.set n (.lst (vs.set (if 0 ≤ i then i.toNat else (i + vs.length).toNat) v)))
  | none => .bad
@[simp] theorem cSet_ref {n : Nat} {i : Int} : cSet (.ref n) (.int i) v h = lstK? (setK n i v) (cellAt h n) h := by
  unfold cSet onCell lstK? setK
  unfold cellAt
  simp only
  generalize h[n]? = z
  cases z with
  | none => rfl
  | some c =>
    cases c with
    | dead => rfl
    | dK _ _ => rfl
    | dT _ _ => rfl
    | ins _ _ _ => rfl
    | lst vs => simp only; cases ixv vs i <;> rfl
theorem setK_of {n : Nat} {i : Int} {vs : List Val} (h0 : 0 ≤ i) (h1 : i.toNat < vs.length) : setK n i v vs h = .ok .non (h.set n (.lst (vs.set i.toNat v))) := by
  have hi : ixv vs i = some vs[i.toNat] := by unfold ixv; rw [if_pos h0, List.getElem?_eq_getElem h1]
  unfold setK
  rw [hi, if_pos h0]
@[simp] theorem setK_0 {n : Nat} {a : Val} {vs : List Val} : setK n 0 v (a :: vs) h = .ok .non (h.set n (.lst (v :: vs))) := setK_of (by decide) (by simp)
@[simp] theorem setK_1 {n : Nat} {a b : Val} {vs : List Val} : setK n 1 v (a :: b :: vs) h = .ok .non (h.set n (.lst (a :: v :: vs))) := setK_of (by decide) (by simp)
@[simp] theorem setK_2 {n : Nat} {a b c : Val} {vs : List Val} : setK n 2 v (a :: b :: c :: vs) h = .ok .non (h.set n (.lst (a :: b :: v :: vs))) := setK_of (by decide) (by simp)
@[simp] theorem setK_3 {n : Nat} {a b c d : Val} {vs : List Val} : setK n 3 v (a :: b :: c :: d :: vs) h = .ok .non (h.set n (.lst (a :: b :: c :: v :: vs))) := setK_of (by decide) (by simp)
@[simp] theorem sMeth_app {g : Val → List Val → Hv → R Val} {fo : SE} {fs : SA} {sv : Env} : sMeth g fo fs sv h = (fo sv h).bind fun v h1 => if v.isL h1 = true then (fs sv h1).bind (g v) else .bad :=
  bind_congr fun v h1 => rfl
@[simp] theorem sMeth0_app {g : Val → List Val → Hv → R Val} {fo : SE} {sv : Env} : sMeth0 g fo sv h = (fo sv h).bind fun v h1 => if v.isL h1 = true then g v [] h1 else .bad := rfl
def isL? : Option Cell → Bool
  | some (.lst _) => true
  | _ => false
@[simp] theorem isL?_lst {vs : List Val} : isL? (some (.lst vs)) = true := rfl
@[simp] theorem isL_ref {n : Nat} : (Val.ref n).isL h = isL? (cellAt h n) := by
  show (match h[n]? with
    | some (.lst _) => true
    | _ => false) = isL? h[n]?
  generalize h[n]? = z
  cases z with
  | none => rfl
  | some c => cases c <;> rfl
@[simp] theorem isL_fl {vs : List Val} : (Val.fl vs).isL h = true := rfl
@[simp] theorem isL_kl {vs : List Val} : (Val.kl vs).isL h = true := rfl
theorem onCell_ref {g : List Val → Hv → R (Val × List Val)} {n : Nat} : onCell g (.ref n) h = lstK? (fun vs h => (g vs h).bind fun p h1 => .ok p.1 (h1.set n (.lst p.2))) (cellAt h n) h := by
  unfold onCell lstK?
  unfold cellAt
  simp only
  generalize h[n]? = z
  cases z with
  | none => rfl
  | some c => cases c <;> rfl
def appK (n : Nat) (y : Val) (vs : List Val) (h : Hv) : R Val := if vs.length < 16777216 then .ok .non (h.set n (.lst (vs ++ [y]))) else .bad
@[simp] theorem mAppend_ref {n : Nat} {y : Val} : mAppend (.ref n) [y] h = lstK? (appK n y) (cellAt h n) h := by
  show onCell (lApp y) (.ref n) h = _
  rw [onCell_ref]
  congr 1
  funext vs h
  unfold lApp appK
  split <;> rfl
def extK (n : Nat) (ys : List Val) (vs : List Val) (h : Hv) : R Val := if vs.length + ys.length ≤ 16777216 then .ok .non (h.set n (.lst (vs ++ ys))) else .bad
@[simp] theorem mExtend_ref {n : Nat} {ys : List Val} : mExtend (.ref n) [.fl ys] h = lstK? (extK n ys) (cellAt h n) h := by
  show onCell (lExt ys) (.ref n) h = _
  rw [onCell_ref]
  congr 1
  funext vs h
  unfold lExt extK
  split <;> rfl
theorem appK_of {n : Nat} {vs : List Val} (hl : vs.length < 16777216) : appK n v vs h = .ok .non (h.set n (.lst (vs ++ [v]))) := by
  unfold appK
  rw [if_pos hl]
theorem set_new {c d : Cell} : (h ++ [c]).set h.length d = h ++ [d] := by rw [List.set_append_right _ _ (Nat.le_refl _)]; simp
def popK (n : Nat) (vs : List Val) (h : Hv) : R Val := match vs.getLast? with
  | some y => .ok y (h.set n (.lst vs.dropLast))
  | none => .bad
@[simp] theorem mPop_ref {n : Nat} : mPop (.ref n) [] h = lstK? (popK n) (cellAt h n) h := by
  show onCell lPop (.ref n) h = _
  rw [onCell_ref]
  congr 1
  funext vs h
  unfold lPop popK
  cases vs.getLast? <;> rfl
def popAtK (n : Nat) (k : Int) (vs : List Val) (h : Hv) : R Val := if -4611686018427387904 ≤ k ∧ k < 4611686018427387904 then (match ixv vs k with
    | some y => .ok y (h.set n (.lst (vs.eraseIdx (if 0 ≤ k then k.toNat else (k + vs.length).toNat))))
    | none => .bad) else .bad
@[simp] theorem mPopAt_ref {n : Nat} {k : Int} : mPop (.ref n) [.int k] h = lstK? (popAtK n k) (cellAt h n) h := by
  show onCell (lPopAt k) (.ref n) h = _
  rw [onCell_ref]
  congr 1
  funext vs h
  unfold lPopAt popAtK
  split
  · cases ixv vs k <;> rfl
  · rfl
theorem popAtK_nat {n k : Nat} {y : Val} {vs : List Val} (hy : vs[k]? = some y) (hk : k < 4611686018427387904) : popAtK n k vs h = .ok y (h.set n (.lst (vs.eraseIdx k))) := by
  have hi : ixv vs (k : Int) = some y := by unfold ixv; rw [if_pos (by omega)]; simpa using hy
  unfold popAtK
  simp only [hi, if_pos (show -4611686018427387904 ≤ (k : Int) ∧ (k : Int) < 4611686018427387904 by omega), if_pos (show (0 : Int) ≤ k by omega), Int.toNat_natCast]
@[simp] theorem truK_ref {n : Nat} : truK (.ref n) h = lstK? (fun vs h => .ok (!vs.isEmpty) h) (cellAt h n) h := by
  unfold truK truB lstK?
  unfold cellAt
  simp only
  generalize h[n]? = z
  cases z with
  | none => rfl
  | some c => cases c <;> rfl
@[simp] theorem cLen_ref {n : Nat} : cLen [.ref n] h = lstK? (fun vs h => .ok (.int vs.length) h) (cellAt h n) h := by
  show gItems _ (.ref n) h = _
  unfold gItems Val.items lstK?
  unfold cellAt
  simp only
  generalize h[n]? = z
  cases z with
  | none => rfl
  | some c => cases c <;> rfl
@[simp] theorem frz_ref {n : Nat} : frz (.ref n) h = lstK? (fun vs h => .ok (.fl vs) (h.set n .dead)) (cellAt h n) h := by
  unfold frz lstK?
  unfold cellAt
  simp only
  generalize h[n]? = z
  cases z with
  | none => rfl
  | some c => cases c <;> rfl
end
end Sx
namespace Lw
open Sx Wd
def iV (xs : List Int) : List Val := xs.map Val.int
@[simp] theorem iV_len (xs : List Int) : (iV xs).length = xs.length := by simp [iV]
theorem iV_get {xs : List Int} {i : Nat} (h : i < xs.length) : (iV xs)[i]? = some (.int xs[i]) := by simp [iV, h]
theorem ltl_iV (n : Nat) : ∀ xs : List Int, Val.lt.ltl n (iV xs) = true
  | [] => rfl
  | x :: xs => by show (true && Val.lt.ltl n (iV xs)) = true; rw [ltl_iV n xs]; rfl
def sV (xs : List (List Nat)) : List Val := xs.map Val.str
@[simp] theorem sV_len (xs : List (List Nat)) : (sV xs).length = xs.length := by simp [sV]
theorem sV_get {xs : List (List Nat)} {i : Nat} (h : i < xs.length) : (sV xs)[i]? = some (.str xs[i]) := by simp [sV, h]
theorem shp_strs : ∀ xs : List (List Nat), (∀ x ∈ xs, PySem.PyData.strOk (Str.ofL x) = true) → Val.noRefs (sV xs) = true ∧ PySem.PyData.canLayAll0 (Val.pds (sV xs)) = true ∧ PySem.PyData.depthAll (Val.pds (sV xs)) ≤ 1
  | [], _ => ⟨rfl, rfl, by decide⟩
  | x :: xs, hx => by
    obtain ⟨h1, h2, h3⟩ := shp_strs xs fun y hy => hx y (List.mem_cons_of_mem _ hy)
    have h0 := hx x List.mem_cons_self
    refine ⟨?_, ?_, ?_⟩
    · show (true && Val.noRefs (sV xs)) = true
      rw [h1]; rfl
    · show PySem.PyData.canLayAll0 (.str (Str.ofL x) :: Val.pds (sV xs)) = true
      simp [PySem.PyData.canLayAll0, PySem.PyData.canLay0, h0, h2]
    · show PySem.PyData.depthAll (.str (Str.ofL x) :: Val.pds (sV xs)) ≤ 1
      simp [PySem.PyData.depthAll, PySem.PyData.depth]
      omega
theorem cmp_strs {xs : List (List Nat)} (hx : ∀ x ∈ xs, PySem.PyData.strOk (Str.ofL x) = true) : (Val.fl (sV xs)).cmpOk = true := by
  obtain ⟨h1, h2, h3⟩ := shp_strs xs hx
  show (Val.noRefs (sV xs) && (PySem.PyData.canLayAll0 (Val.pds (sV xs)) && decide ((PySem.PyData.list (Val.pds (sV xs))).depth ≤ 64))) = true
  rw [h1, h2]
  simp [PySem.PyData.depth]
  omega
/-- the stream of draws -/
structure Strm where
  xs : List Int
  a : Int
  b : Nat
  c : Int
def Strm.ok (S : Strm) : Prop := 0 ≤ S.a ∧ S.b ≤ S.xs.length ∧ 0 ≤ S.c ∧ S.c < 2147483647 ∧ S.xs.length ≤ 63
instance (S : Strm) : Decidable S.ok := inferInstanceAs (Decidable (_ ∧ _))
def strmL (S : Strm) : List Val := [.fl (iV S.xs), .int S.a, .int S.b, .int S.c]
def strmC (S : Strm) : Cell := .lst (strmL S)
theorem strm_lt (S : Strm) (n : Nat) : (strmC S).lt n = true := by
  show (Val.lt.ltl n (iV S.xs) && _) = true
  rw [ltl_iV]; rfl
def absI (x : Int) : Int := if x < 0 then -x else x
def fillS (S : Strm) : Strm := if S.a = 0 ∧ S.b < S.xs.length then { S with a := absI (S.xs.getD S.b 0), b := S.b + 1 } else S
def drawV (S : Strm) (n : Int) : Int := if (fillS S).a = 0 then ((fillS S).c * 48271 + 11) % 2147483647 / 97 % n else (fillS S).a % n
def drawS (S : Strm) (n : Int) : Strm := if (fillS S).a = 0 then { fillS S with c := ((fillS S).c * 48271 + 11) % 2147483647 } else { fillS S with a := (fillS S).a / n }
theorem fill_ok {S : Strm} (h : S.ok) : (fillS S).ok := by
  unfold fillS
  split
  · obtain ⟨h1, h2, h3, h4, h5⟩ := h
    refine ⟨?_, by show S.b + 1 ≤ S.xs.length; omega, h3, h4, h5⟩
    show 0 ≤ absI _
    unfold absI; split <;> omega
  · exact h
theorem draw_ok {S : Strm} {n : Int} (h : S.ok) (hn : 0 < n) : (drawS S n).ok := by
  obtain ⟨h1, h2, h3, h4, h5⟩ := fill_ok h
  unfold drawS
  split
  · exact ⟨h1, h2, by show 0 ≤ _ % (2147483647 : Int); omega, by show _ % (2147483647 : Int) < _; omega, h5⟩
  · exact ⟨Int.ediv_nonneg h1 (Int.le_of_lt hn), h2, h3, h4, h5⟩
theorem draw_lt {S : Strm} {n : Int} (hn : 0 < n) : 0 ≤ drawV S n ∧ drawV S n < n := by
  unfold drawV
  split
  · exact ⟨Int.emod_nonneg _ (by omega), Int.emod_lt_of_pos _ hn⟩
  · exact ⟨Int.emod_nonneg _ (by omega), Int.emod_lt_of_pos _ hn⟩
theorem draw_nat {S : Strm} {n : Int} (hn : 0 < n) : ∃ k : Nat, drawV S n = k ∧ (k : Int) < n := ⟨(drawV S n).toNat, by have := draw_lt (S := S) hn; omega, by have := draw_lt (S := S) hn; omega⟩
theorem draw_xs (S : Strm) (n : Int) : (drawS S n).xs = S.xs := by unfold drawS fillS; split <;> split <;> rfl
/-- the stream that a cell is -/
def strmAt (h : Hv) (i : Nat) (S : Strm) : Prop := cellAt h i = some (strmC S) ∧ S.ok
theorem strm_set {h : Hv} {i : Nat} {S S' : Strm} (e : strmAt h i S) (k : S'.ok) : strmAt (h.set i (strmC S')) i S' := by
  have hl : i < h.length := cellAt_lt e.1
  exact ⟨by rw [cellAt_self, if_pos hl], k⟩
def unI : Val → Option Int
  | .int i => some i
  | _ => none
def unIs : List Val → Option (List Int)
  | [] => some []
  | v :: vs => (unI v).bind fun i => (unIs vs).map (i :: ·)
theorem unIs_iV : ∀ xs : List Int, unIs (iV xs) = some xs
  | [] => rfl
  | x :: xs => by
    show ((unI (.int x)).bind fun i => (unIs (iV xs)).map (i :: ·)) = _
    rw [unIs_iV xs]; rfl
theorem unIs_of : ∀ {vs : List Val} {xs : List Int}, unIs vs = some xs → vs = iV xs
  | [], _, h => by cases h; rfl
  | v :: vs, _, h => by
    unfold unIs at h
    cases v with
    | int i =>
      cases e : unIs vs with
      | none => simp [unI, e] at h
      | some ys =>
        simp only [unI, e, Option.bind_some, Option.map_some, Option.some.injEq] at h
        subst h
        rw [unIs_of e]; rfl
    | _ => simp [unI] at h
def unStrm : List Val → Option Strm
  | a :: b :: c :: d :: [] => (match a, b, c, d with
    | .fl vs, .int a, .int b, .int c => (unIs vs).bind fun xs => if 0 ≤ b then some ⟨xs, a, b.toNat, c⟩ else none
    | _, _, _, _ => none)
  | _ => none
def strm? : Option Cell → Option Strm
  | some (.lst vs) => unStrm vs
  | _ => none
theorem strm?_of {S : Strm} : strm? (some (strmC S)) = some S := by
  show (unIs (iV S.xs)).bind _ = _
  rw [unIs_iV]
  simp
theorem strm?_at {h : Hv} {i : Nat} {S : Strm} (e : strmAt h i S) : strm? (cellAt h i) = some S := by rw [e.1, strm?_of]
theorem of_strm? {o : Option Cell} {S : Strm} (h : strm? o = some S) : o = some (strmC S) := by
  cases o with
  | none => cases h
  | some c =>
    cases c with
    | dead => cases h
    | dK _ _ => cases h
    | dT _ _ => cases h
    | ins _ _ _ => cases h
    | lst vs =>
      have h : unStrm vs = some S := h
      match vs, h with
      | [], h => cases h
      | [_], h => cases h
      | [_, _], h => cases h
      | [_, _, _], h => cases h
      | [a, b, c, d], h =>
        cases a with
        | fl vs =>
          cases b with
          | int a =>
            cases c with
            | int b =>
              cases d with
              | int c =>
                have h : ((unIs vs).bind fun xs => if 0 ≤ b then some (⟨xs, a, b.toNat, c⟩ : Strm) else none) = some S := h
                cases e : unIs vs with
                | none => rw [e] at h; cases h
                | some xs =>
                  rw [e] at h
                  simp only [Option.bind_some] at h
                  by_cases hb : 0 ≤ b
                  · rw [if_pos hb] at h
                    cases h
                    rw [unIs_of e]
                    show some (Cell.lst [.fl (iV xs), .int a, .int b, .int c]) = some (Cell.lst [.fl (iV xs), .int a, .int (b.toNat : Int), .int c])
                    rw [Int.toNat_of_nonneg hb]
                  · rw [if_neg hb] at h; cases h
              | _ => cases h
            | _ => cases h
          | _ => cases h
        | _ => cases h
      | _ :: _ :: _ :: _ :: _ :: _, h => cases h
theorem seq_eq {f g : SS} {sv s : Env} {h h' : Hv} {Q : Val → Hv → Prop} (e : f sv h = .ok (.nx s) h') (k : Ok (fin (g s h')) Q) : Ok (fin (sSeq f g sv h)) Q := by
  rw [sSeq_app, e, bind_ok, seqK_nx]; exact k
theorem seq_ok {f g : SS} {sv : Env} {h : Hv} {P : Env → Hv → Prop} {Q : Val → Hv → Prop} (e : Ok (f sv h) fun fl h' => ∃ s, fl = .nx s ∧ P s h') (k : ∀ s h', P s h' → Ok (fin (g s h')) Q) : Ok (fin (sSeq f g sv h)) Q := by
  obtain ⟨fl, h', e1, s, rfl, p⟩ := e
  exact seq_eq e1 (k s h' p)
theorem seqF_eq {f g : SS} {sv s : Env} {h h' : Hv} {Q : Fl → Hv → Prop} (e : f sv h = .ok (.nx s) h') (k : Ok (g s h') Q) : Ok (sSeq f g sv h) Q := by
  rw [sSeq_app, e, bind_ok, seqK_nx]; exact k
/-! a chain of ifs, head by head -/
theorem fin_skip {t : ST} {f g : SS} {sv : Env} {h : Hv} (e : t sv h = .ok false h) : fin (sSeq (sIte t f sSkip) g sv h) = fin (g sv h) := by
  rw [sSeq_app, sIte_app, e, bind_ok, if_neg Bool.false_ne_true, sSkip_app, bind_ok, seqK_nx]
theorem fin_take {t : ST} {f g : SS} {sv : Env} {h h' : Hv} {v : Val} (e : t sv h = .ok true h) (r : f sv h = .ok (.rt v) h') : fin (sSeq (sIte t f sSkip) g sv h) = .ok v h' := by
  rw [sSeq_app, sIte_app, e, bind_ok, if_pos rfl, r, bind_ok, seqK_rt, fin_rt]
theorem fin_step {f g : SS} {sv sv' : Env} {h h' : Hv} (e : f sv h = .ok (.nx sv') h') : fin (sSeq f g sv h) = fin (g sv' h') := by
  rw [sSeq_app, e, bind_ok, seqK_nx]
end Lw

set_option Elab.async false
set_option linter.all false
set_option maxRecDepth 100000
/-! SxDs: dicts, tuples times n, step by step. -/
namespace Sx
section
variable {sv : Env} {h : Hv} {a b : SE} {v y : Val}
@[simp] theorem gAddX_int {i j : Int} : gAddX (.int i) (.int j) h = .ok (.int (i + j)) h := rfl
@[simp] theorem gAddX_tup {x y : List Val} : gAddX (.tup x) (.tup y) h = if x.length + y.length ≤ 16777216 then .ok (.tup (x ++ y)) h else .bad := rfl
@[simp] theorem gAddX_fl {x y : List Val} : gAddX (.fl x) (.fl y) h = if x.length + y.length ≤ 16777216 then .ok (.fl (x ++ y)) h else .bad := rfl
@[simp] theorem gMulX_int {i j : Int} : gMulX (.int i) (.int j) h = if (-18446744073709551616 < j ∧ j < 18446744073709551616) ∨ (-18446744073709551616 < i ∧ i < 18446744073709551616) then .ok (.int (i * j)) h else .bad := rfl
@[simp] theorem gMulX_tup {vs : List Val} {k : Int} : gMulX (.tup vs) (.int k) h = if vs ≠ [] ∧ 0 ≤ k ∧ k ≤ 1000 ∧ vs.length ≤ 1000 then .ok (.tup (repV k vs)) h else .bad := rfl
@[simp] theorem gMulX_fl {vs : List Val} {k : Int} : gMulX (.fl vs) (.int k) h = if 0 ≤ k ∧ k ≤ 1000 ∧ vs.length ≤ 1000 then .ok (.fl (repV k vs)) h else .bad := rfl
def cellK (y : Val) : Option Cell → Hv → R Val
  | some (.lst vs), h => (match y with
    | .int i => ixK vs i h
    | _ => .bad)
  | some (.dK ks vs), h => (match dAt ks vs y with
    | some v => .ok v h
    | none => .bad)
  | _, _ => .bad
@[simp] theorem cellK_lst {vs : List Val} {i : Int} : cellK (.int i) (some (.lst vs)) h = ixK vs i h := rfl
def optK : Option Val → Hv → R Val
  | some v, h => .ok v h
  | none, _ => .bad
@[simp] theorem optK_some : optK (some v) h = .ok v h := rfl
@[simp] theorem cellK_dK {ks : List KV} {vs : List Val} : cellK y (some (.dK ks vs)) h = optK (dAt ks vs y) h := by
  show (match dAt ks vs y with | some v => R.ok v h | none => .bad) = _
  cases dAt ks vs y <;> rfl
@[simp] theorem gIxD_fl {vs : List Val} {i : Int} : gIxD (.fl vs) (.int i) h = ixK vs i h := rfl
@[simp] theorem gIxD_kl {vs : List Val} {i : Int} : gIxD (.kl vs) (.int i) h = ixK vs i h := rfl
@[simp] theorem gIxD_tup {vs : List Val} {i : Int} : gIxD (.tup vs) (.int i) h = ixK vs i h := rfl
@[simp] theorem gIxD_ref {n : Nat} : gIxD (.ref n) y h = cellK y (cellAt h n) h := by
  show (match h[n]? with
    | some (.dK ks vs) => (match dAt ks vs y with
      | some v => R.ok v h
      | none => .bad)
    | _ => gIx (.ref n) y h) = cellK y h[n]? h
  cases e : h[n]? with
  | none => cases y <;> simp [gIx, Val.items, e, cellK]
  | some c =>
    cases c with
    | dK ks vs => rfl
    | lst vs =>
      cases y with
      | int i =>
        simp only [gIx, Val.items, e, cellK, ixK]
        try rfl
      | _ => simp [gIx, Val.items, e, cellK]
    | _ => cases y <;> simp [gIx, Val.items, e, cellK]
@[simp] theorem keyOf_int {i : Int} : keyOf (.int i) = some (.inl i) := rfl
@[simp] theorem keyOf_str {x : List Nat} : keyOf (.str x) = some (.inr x) := rfl
@[simp] theorem posK_nil {k : KV} : posK k [] = none := rfl
@[simp] theorem posK_cons {k c : KV} {ks : List KV} : posK k (c :: ks) = if c = k then some 0 else (posK k ks).map (· + 1) := rfl
theorem dAt_of {ks : List KV} {vs : List Val} {k : KV} (h : keyOf y = some k) : dAt ks vs y = (posK k ks).bind fun i => vs[i]? := by unfold dAt; rw [h]; rfl
@[simp] theorem dAt_int {ks : List KV} {vs : List Val} {i : Int} : dAt ks vs (.int i) = (posK (.inl i) ks).bind fun i => vs[i]? := rfl
@[simp] theorem dAt_str {ks : List KV} {vs : List Val} {x : List Nat} : dAt ks vs (.str x) = (posK (.inr x) ks).bind fun i => vs[i]? := rfl
@[simp] theorem spNil_app : spNil sv h = .ok [] h := rfl
@[simp] theorem spCons_app {fk fv : SE} {r : SP} : spCons fk fv r sv h = (fk sv h).bind fun k h1 => (fv sv h1).bind fun v h2 => (r sv h2).bind fun ps h3 => .ok ((k, v) :: ps) h3 := rfl
@[simp] theorem sDisp_app {f : SP} : sDisp f sv h = (noX (f sv h)).bind dispK := rfl
@[simp] theorem sBad_app : sBad sv h = .bad := rfl
@[simp] theorem sPar2_app {i j : Nat} {fs : SA} : sPar2 i j fs sv h = (fs sv h).bind (par2K i j sv) := rfl
@[simp] theorem sPar3_app {i j l : Nat} {fs : SA} : sPar3 i j l fs sv h = (fs sv h).bind (par3K i j l sv) := rfl
@[simp] theorem par2K_2 {i j : Nat} {v w : Val} : par2K i j sv [v, w] h = .ok (.nx ((sv.set i (some v)).set j (some w))) h := rfl
@[simp] theorem par3K_3 {i j l : Nat} {u v w : Val} : par3K i j l sv [u, v, w] h = .ok (.nx (((sv.set i (some u)).set j (some v)).set l (some w))) h := rfl
end
end Sx

set_option Elab.async false
set_option linter.all false
set_option maxRecDepth 100000
set_option maxHeartbeats 2000000
/-! SxText: signs in texts, methods of texts, texts of the top. -/
namespace Sx
open PySem PySem.Spec L2
open PyProof.Rows hiding St
section
variable {X : Cx} {cm : Nat → Addr} {W : XW} {pos : Pos} {a b c e o : Expr} {es : List Expr} {fa fb fc fo : SE} {fs : SA}
/-- x in y: a sign in a text, a flat thing in a row -/
def gInX (neg : Bool) : Val → Val → Hv → R Val := fun x y h => match y with
  | .str z => (match x with
    | .str (c :: []) => .ok (.bl (if neg then !decide (c ∈ z) else decide (c ∈ z))) h
    | _ => .bad)
  | y => gInB neg x y h
def gInT := gInX false
def gNotInT := gInX true
theorem gInX_seq {neg : Bool} {x y : Val} {h : Hv} (hy : ∀ z, y ≠ .str z) : gInX neg x y h = gInB neg x y h := by
  cases y with
  | str z => exact absurd rfl (hy z)
  | _ => rfl
theorem os_inX (neg : Bool) {r : R2} (hr : ∀ (k : Nat) (z : Str) (H : Hp) (Q : VK), Q (.bl (if neg then !decide (k ∈ z.cps.toList) else decide (k ∈ z.cps.toList))) H → r (.str ⟨#[k]⟩) (.str z) H Q) : OpS X.K cm W (fun x y H Q => r x y H Q ∨ rIn X.K neg x y H Q) (gInX neg) := by
  intro S v1 v2 w1 w2 Q M r1 r2 p
  cases v2 with
  | str z =>
    cases v1 with
    | str x =>
      cases x with
      | nil => exact p.elim
      | cons k t =>
        cases t with
        | cons _ _ => exact p.elim
        | nil =>
          obtain ⟨y1, rfl, e1⟩ := r1
          obtain ⟨y2, rfl, e2⟩ := r2
          refine .inl ?_
          have e3 : y1 = ⟨#[k]⟩ := ofL_of e1
          subst e3
          refine hr k y2 S.H Q ?_
          exact Post.bl (K := X.K) (cm := cm) (W := W) (S := S) (b := if neg then !decide (k ∈ z) else decide (k ∈ z)) p M (by rw [e2])
    | _ => exact p.elim
  | _ => exact .inr (os_in neg S v1 _ w1 w2 Q M r1 r2 (by rw [gInX_seq (fun z e => by cases e)] at p; exact p))
theorem op_inT : OpR X (compareOp .In) (fun x y H Q => rInS x y H Q ∨ rIn X.K false x y H Q) := op_inS.or op_in_seq
theorem op_notInT : OpR X (compareOp .NotIn) (fun x y H Q => rNotInS x y H Q ∨ rIn X.K true x y H Q) := op_notInS.or op_notIn_seq
theorem os_inT : OpS X.K cm W (fun x y H Q => rInS x y H Q ∨ rIn X.K false x y H Q) gInT := os_inX false fun k z H Q q => ⟨k, z, rfl, rfl, q⟩
theorem os_notInT : OpS X.K cm W (fun x y H Q => rNotInS x y H Q ∨ rIn X.K true x y H Q) gNotInT := os_inX true fun k z H Q q => ⟨k, z, rfl, rfl, q⟩
/-! methods of texts -/
def Val.isS : Val → Bool
  | .str _ => true
  | _ => false
def sSM0 (g : Val → List Val → Hv → R Val) (o : SE) : SE := fun sv h => (o sv h).bind fun v h1 => if v.isS = true then g v [] h1 else .bad
def sSM1 (g : Val → List Val → Hv → R Val) (o : SE) (a : SE) : SE := fun sv h => (o sv h).bind fun v h1 => if v.isS = true then (a sv h1).bind fun u h2 => g v [u] h2 else .bad
theorem isS_of {K : PySem.W.Frag} {S : Sn} {v : Val} {w : V} (r : VRel K S v w) (h : v.isS = true) : ∃ a, w = .str a := by
  cases v with
  | str x => obtain ⟨y, rfl, _⟩ := r; exact ⟨y, rfl⟩
  | _ => cases h
theorem je_sm0 {id : String} {name : Str} {apos : Pos} {r : V → List V → Hp → VK → Prop} {g : Val → List Val → Hv → R Val} (slot : Slot "str" name id) (ty : typeOf (.builtin id) = pure (.type "method_descriptor")) (rule : MtR X id r) (hs : MeS X.K cm W r g) (ho : JE X cm W o fo)
    (hbase : attributeBase o name X.env (eval o X.env) = eval o X.env := by rfl) (hline : (apos.endLine == pos.line) = true := by rfl) : JE X cm W (.Call (.Attribute o name apos) [] [] pos) (sSM0 g fo) :=
  PE.imp (pe_m0 slot ty rule ho hbase hline) fun σ H Q ⟨S, sv, e, M, r, p⟩ => by
    subst e
    refine ⟨S, sv, rfl, M, r, Post.bind p fun v S1 e1 M1 p1 w r1 => ?_⟩
    obtain ⟨hl, p1⟩ := Post.ite p1
    exact ⟨isS_of r1 hl, hs S1 v [] w [] Q M1 r1 VRels.nil p1⟩
theorem je_sm1 {id : String} {name : Str} {apos : Pos} {r : V → List V → Hp → VK → Prop} {g : Val → List Val → Hv → R Val} (slot : Slot "str" name id) (ty : typeOf (.builtin id) = pure (.type "method_descriptor")) (rule : MtR X id r) (hs : MeS X.K cm W r g) (ho : JE X cm W o fo) (ha : JE X cm W a fa)
    (hst : starEach [a] X.env = [(false, eval a X.env)] := by rfl) (hbase : attributeBase o name X.env (eval o X.env) = eval o X.env := by rfl) (hline : (apos.endLine == pos.line) = true := by rfl) : JE X cm W (.Call (.Attribute o name apos) [a] [] pos) (sSM1 g fo fa) :=
  PE.imp (pe_m1 slot ty rule ho ha hst hbase hline) fun σ H Q ⟨S, sv, e, M, r, p⟩ => by
    subst e
    refine ⟨S, sv, rfl, M, r, Post.bind p fun v S1 e1 M1 p1 w r1 => ?_⟩
    obtain ⟨hl, p1⟩ := Post.ite p1
    refine ⟨isS_of r1 hl, S1, sv, rfl, M1, r.ext e1, Post.bind p1 fun u S2 e2 M2 p2 y r2 => ?_⟩
    exact hs S2 v [u] w [y] Q M2 (VRel.ext e2 v r1) (VRels.cons r2 VRels.nil) p2
def stripF (x y : List Nat) : List Nat := (Txt.stripChars (Str.ofL x) (Str.ofL y)).cps.toList
def mStrip : Val → List Val → Hv → R Val := fun v us h => match v, us with
  | .str x, .str y :: [] => if x.length ≤ 16777216 then .ok (.str (stripF x y)) h else .bad
  | _, _ => .bad
theorem len_ofL (x : List Nat) : (Str.ofL x).length = x.length := by
  show (Str.ofL x).cps.size = _
  rw [← ofL_toList x, Array.length_toList, ofL_toList]
theorem ms_strip : MeS X.K cm W (fun x xs H Q => ∃ a b, x = .str a ∧ xs = [.str b] ∧ a.length ≤ sizeLine ∧ Q (.str (Txt.stripChars a b)) H) mStrip := by
  intro S v vs w ws Q M r rs p
  unfold mStrip at p
  split at p
  · obtain ⟨y1, rfl, e1⟩ := r
    obtain ⟨w2, rfl, y2, rfl, e2⟩ := rels1 rs
    obtain ⟨hl, p⟩ := Post.ite p
    have q1 := ofL_of e1
    have q2 := ofL_of e2
    subst q1 q2
    exact ⟨_, _, rfl, rfl, by rw [len_ofL, sizeLine_eq]; exact hl, p.here M _ ⟨_, rfl, rfl⟩⟩
  · exact p.elim
def mUpper : Val → List Val → Hv → R Val := fun v us h => match v, us with
  | .str x, [] => if x.all (fun c => decide (c < 128)) = true ∧ x.length ≤ 5592405 then .ok (.str (x.map PyProof.Rows.up1)) h else .bad
  | _, _ => .bad
theorem ms_upper : MeS X.K cm W (fun x xs H Q => ∃ a, x = .str a ∧ xs = [] ∧ a.length ≤ 5592405 ∧ Q (.str (Txt.upper a)) H) mUpper := by
  intro S v vs w ws Q M r rs p
  unfold mUpper at p
  split at p
  · obtain ⟨y1, rfl, e1⟩ := r
    cases rs
    obtain ⟨hl, p⟩ := Post.ite p
    have q1 := ofL_of e1
    subst q1
    refine ⟨_, rfl, rfl, by rw [len_ofL]; exact hl.2, p.here M _ ⟨_, rfl, ?_⟩⟩
    exact congrArg (fun s : Str => s.cps.toList) (SX.upper_S hl.1)
  · exact p.elim
def mSplit : Val → List Val → Hv → R Val := fun v us h => match v, us with
  | .str x, .str y :: [] => if y ≠ [] ∧ y.all (fun c => decide (c < 256)) = true ∧ x.length + 2 ≤ 16777216 then .ok (.fl ((TL.spl y 0 [] x).map Val.str)) h else .bad
  | _, _ => .bad
theorem rels_strs {K : PySem.W.Frag} {S : Sn} : ∀ ys : List (List Nat), VRels K S (ys.map Val.str) ((ys.map Str.ofL).map V.str)
  | [] => rfl
  | y :: ys => ⟨_, _, rfl, ⟨_, rfl, rfl⟩, rels_strs ys⟩
theorem ms_split : MeS X.K cm W (fun x xs H Q => ∃ a b, x = .str a ∧ xs = [.str b] ∧ (b.length == 0) = false ∧ a.length + 2 ≤ sizeLine ∧ rNewStrs (Txt.split a b) H Q) mSplit := by
  intro S v vs w ws Q M r rs p
  unfold mSplit at p
  split at p
  · rename_i x y
    obtain ⟨y1, rfl, e1⟩ := r
    obtain ⟨w2, rfl, y2, rfl, e2⟩ := rels1 rs
    obtain ⟨hl, p⟩ := Post.ite p
    have q1 := ofL_of e1
    have q2 := ofL_of e2
    subst q1 q2
    refine ⟨_, _, rfl, rfl, ?_, by rw [len_ofL, sizeLine_eq]; exact hl.2.2, fun q hq => ?_⟩
    · rw [len_ofL]
      exact beq_eq_false_iff_ne.mpr fun z => hl.1 (List.length_eq_zero_iff.mp z)
    · have e : Txt.split (Str.ofL x) (Str.ofL y) = (TL.spl y 0 [] x).map Str.ofL := SX.split_S hl.1 hl.2.1
      rw [e]
      exact p.laid M hq _ _ (vrel_fl M hq (rels_strs _))
  · exact p.elim
/-- a text of the top -/
theorem kconst_str {K : PySem.W.Frag} {mg : Str → Option Value} {x : Str} {y : Str} {z : List Nat} {t : Tok} (hm : mg x = some (.str y t)) (h : y.cps.toList = z) : KConst K mg x (.str z) := ⟨_, .str y, hm, ⟨t, rfl⟩, fun _ => ⟨y, rfl, h⟩⟩
end
end Sx

set_option Elab.async false
set_option linter.all false
set_option maxRecDepth 100000
/-! SxTs: texts, step by step. -/
namespace Sx
section
variable {sv : Env} {h : Hv} {o a : SE}
@[simp] theorem gInT_str {c : Nat} {z : List Nat} : gInT (.str [c]) (.str z) h = .ok (.bl (decide (c ∈ z))) h := rfl
@[simp] theorem gNotInT_str {c : Nat} {z : List Nat} : gNotInT (.str [c]) (.str z) h = .ok (.bl (!decide (c ∈ z))) h := rfl
@[simp] theorem gInT_fl {x : Val} {vs : List Val} : gInT x (.fl vs) h = if x.flat = true ∧ vs.all Val.flat = true then .ok (.bl (vs.any fun u => Val.eq u x)) h else .bad := rfl
@[simp] theorem gInT_tup {x : Val} {vs : List Val} : gInT x (.tup vs) h = if x.flat = true ∧ vs.all Val.flat = true then .ok (.bl (vs.any fun u => Val.eq u x)) h else .bad := rfl
@[simp] theorem gNotInT_fl {x : Val} {vs : List Val} : gNotInT x (.fl vs) h = if x.flat = true ∧ vs.all Val.flat = true then .ok (.bl (!vs.any fun u => Val.eq u x)) h else .bad := rfl
@[simp] theorem gNotInT_tup {x : Val} {vs : List Val} : gNotInT x (.tup vs) h = if x.flat = true ∧ vs.all Val.flat = true then .ok (.bl (!vs.any fun u => Val.eq u x)) h else .bad := rfl
@[simp] theorem isS_str {x : List Nat} : (Val.str x).isS = true := rfl
@[simp] theorem sSM0_app {g : Val → List Val → Hv → R Val} : sSM0 g o sv h = (o sv h).bind fun v h1 => if v.isS = true then g v [] h1 else .bad := rfl
@[simp] theorem sSM1_app {g : Val → List Val → Hv → R Val} : sSM1 g o a sv h = (o sv h).bind fun v h1 => if v.isS = true then (a sv h1).bind fun u h2 => g v [u] h2 else .bad := rfl
theorem mStrip_of {x y : List Nat} (hx : x.length ≤ 16777216) : mStrip (.str x) [.str y] h = .ok (.str (stripF x y)) h := if_pos hx
@[simp] theorem mUpper_str {x : List Nat} : mUpper (.str x) [] h = if x.all (fun c => decide (c < 128)) = true ∧ x.length ≤ 5592405 then .ok (.str (x.map PyProof.Rows.up1)) h else .bad := rfl
@[simp] theorem mSplit_str {x y : List Nat} : mSplit (.str x) [.str y] h = if y ≠ [] ∧ y.all (fun c => decide (c < 256)) = true ∧ x.length + 2 ≤ 16777216 then .ok (.fl ((TL.spl y 0 [] x).map Val.str)) h else .bad := rfl
theorem gIx_str {x : List Nat} {k : Nat} {c : Nat} (hx : x.length ≤ 16777216) (hc : x[k]? = some c) : gIx (.str x) (.int k) h = .ok (.str [c]) h := by
  show (if x.length ≤ 16777216 then (match ixv x (k : Int) with | some c => R.ok (Val.str [c]) h | none => .bad) else .bad) = _
  rw [if_pos hx]
  have e : ixv x (k : Int) = some c := by unfold ixv; rw [if_pos (by omega)]; simpa using hc
  rw [e]
theorem gSl_str {x : List Nat} {i j : Nat} (hx : x.length ≤ 16777216) (hi : i ≤ x.length) (hj : i ≤ j) : gSl (.str x) (some (i : Int)) (some (j : Int)) h = .ok (.str ((x.drop i).take (j - i))) h := by
  show (if x.length ≤ 16777216 then R.ok (Val.str (cutL x (some (i : Int)) (some (j : Int)))) h else .bad) = _
  rw [if_pos hx]
  unfold cutL
  rw [slB_nat, slB_nat, Nat.min_eq_left hi]
  have e : (x.drop i).take (min j x.length - i) = (x.drop i).take (j - i) := by
    by_cases hl : j ≤ x.length
    · rw [Nat.min_eq_left hl]
    · rw [Nat.min_eq_right (by omega), List.take_of_length_le (by rw [List.length_drop]; exact Nat.le_refl _), List.take_of_length_le (by rw [List.length_drop]; omega)]
  rw [e]
theorem gSl_strn {x : List Nat} {i n : Nat} (hx : x.length ≤ 16777216) (hi : i ≤ x.length) : gSl (.str x) (some (i : Int)) (some ((i : Int) + (n : Int))) h = .ok (.str ((x.drop i).take n)) h := by
  have e : ((i : Int) + (n : Int)) = ((i + n : Nat) : Int) := by omega
  rw [e, gSl_str hx hi (by omega), Nat.add_sub_cancel_left]
@[simp] theorem gAdd_strs {x y : List Nat} : gAdd (.str x) (.str y) h = if x.length + y.length ≤ 16777216 then .ok (.str (x ++ y)) h else .bad := rfl
theorem strip_len (x y : List Nat) : (stripF x y).length ≤ x.length := by
  have e := PyProof.Rows.len_stripChars (Str.ofL x) (Str.ofL y)
  have e1 : (PySem.Txt.stripChars (Str.ofL x) (Str.ofL y)).length = (stripF x y).length := by
    show (PySem.Txt.stripChars (Str.ofL x) (Str.ofL y)).cps.size = _
    rw [← Array.length_toList]; rfl
  rw [e1, len_ofL] at e
  exact e
theorem gAdd_str {x y : List Nat} (hl : x.length + y.length ≤ 16777216) : gAdd (.str x) (.str y) h = .ok (.str (x ++ y)) h := if_pos hl
theorem truK_str {x : List Nat} (hx : x.length ≤ 16777216) : truK (.str x) h = .ok (!x.isEmpty) h := by
  show (match (if x.length ≤ 16777216 then some (!x.isEmpty) else none) with | some b => R.ok b h | none => .bad) = _
  rw [if_pos hx]
theorem cLen_of {x : List Nat} (hx : x.length ≤ 16777216) : cLen [.str x] h = .ok (.int x.length) h := by rw [cLen_str, if_pos hx]
end
end Sx
namespace Lw
open Sx
theorem flat_sV : ∀ xs : List (List Nat), (sV xs).all Val.flat = true
  | [] => rfl
  | x :: xs => by show (true && (sV xs).all Val.flat) = true; rw [flat_sV xs]; rfl
theorem any_sV {x : List Nat} : ∀ xs : List (List Nat), ((sV xs).any fun u => Val.eq u (.str x)) = decide (x ∈ xs)
  | [] => by simp [sV]
  | y :: ys => by
    show (Val.eq (.str y) (.str x) || (sV ys).any fun u => Val.eq u (.str x)) = _
    rw [any_sV ys, veq_str]
    by_cases h : y = x
    · subst h; simp
    · simp [h, Ne.symm h]
theorem in_sVt {x : List Nat} {xs : List (List Nat)} {h : Hv} : gInT (.str x) (.tup (sV xs)) h = .ok (.bl (decide (x ∈ xs))) h := by rw [gInT_tup, if_pos ⟨rfl, flat_sV xs⟩, any_sV]
theorem in_sVf {x : List Nat} {xs : List (List Nat)} {h : Hv} : gInT (.str x) (.fl (sV xs)) h = .ok (.bl (decide (x ∈ xs))) h := by rw [gInT_fl, if_pos ⟨rfl, flat_sV xs⟩, any_sV]
end Lw

set_option Elab.async false
set_option linter.all false
set_option maxRecDepth 100000
set_option maxHeartbeats 2000000
/-! Nx: plain typed functions, and how the semantics of a def tells them -/
namespace Nx
open Sx
/-! ### data -/
inductive D where
  | non | bl (b : Bool) | int (i : Int) | str (x : List Nat) | tup (ds : List D) | fl (ds : List D)
mutual
def D.enc : D → Val
  | .non => .non
  | .bl b => .bl b
  | .int i => .int i
  | .str x => .str x
  | .tup ds => .tup (D.encs ds)
  | .fl ds => .fl (D.encs ds)
def D.encs : List D → List Val
  | [] => []
  | d :: ds => D.enc d :: D.encs ds
end
theorem D.encs_map : ∀ ds : List D, D.encs ds = ds.map D.enc
  | [] => rfl
  | d :: ds => by rw [List.map_cons, ← D.encs_map ds]; rfl
mutual
theorem D.lt0 : ∀ d : D, (D.enc d).lt 0 = true
  | .non => rfl
  | .bl _ => rfl
  | .int _ => rfl
  | .str _ => rfl
  | .tup ds => D.lts0 ds
  | .fl ds => D.lts0 ds
theorem D.lts0 : ∀ ds : List D, Val.lt.ltl 0 (D.encs ds) = true
  | [] => rfl
  | d :: ds => by show (Val.lt 0 (D.enc d) && Val.lt.ltl 0 (D.encs ds)) = true; rw [D.lt0 d, D.lts0 ds]; rfl
end
mutual
theorem D.inj : ∀ a b : D, D.enc a = D.enc b → a = b
  | .non, b, h => by cases b <;> simp_all [D.enc]
  | .bl _, b, h => by cases b <;> simp_all [D.enc]
  | .int _, b, h => by cases b <;> simp_all [D.enc]
  | .str _, b, h => by cases b <;> simp_all [D.enc]
  | .tup ds, b, h => by
    cases b <;> simp only [D.enc, reduceCtorEq, Val.tup.injEq] at h
    rw [D.injs _ _ h]
  | .fl ds, b, h => by
    cases b <;> simp only [D.enc, reduceCtorEq, Val.fl.injEq] at h
    rw [D.injs _ _ h]
theorem D.injs : ∀ a b : List D, D.encs a = D.encs b → a = b
  | [], b, h => by cases b <;> simp_all [D.encs]
  | d :: ds, b, h => by
    cases b with
    | nil => simp [D.encs] at h
    | cons e es =>
      simp only [D.encs, List.cons.injEq] at h
      rw [D.inj _ _ h.1, D.injs _ _ h.2]
end
theorem items_ref {i : Nat} {h : Hv} : (Val.ref i).items h = (match h[i]? with
  | some (.lst vs) => some vs
  | _ => none) := rfl
theorem isL_ref' {i : Nat} {h : Hv} : (Val.ref i).isL h = (match h[i]? with
  | some (.lst vs) => true
  | _ => false) := rfl
/-- the list v stands for, in the cells h -/
def IsL (h : Hv) (v : Val) (vs : List Val) : Prop := v.items h = some vs ∧ v.isL h = true
def Bs (b h : Hv) : Prop := b.length ≤ h.length ∧ ∀ j, j < b.length → h[j]? = b[j]?
theorem Bs.refl (h : Hv) : Bs h h := ⟨Nat.le_refl _, fun _ _ => rfl⟩
theorem Bs.trans {a b c : Hv} (x : Bs a b) (y : Bs b c) : Bs a c := ⟨Nat.le_trans x.1 y.1, fun j hj => (y.2 j (Nat.lt_of_lt_of_le hj x.1)).trans (x.2 j hj)⟩
theorem IsL.mono {b h : Hv} {v : Val} {vs : List Val} (s : Bs b h) (x : IsL b v vs) : IsL h v vs := by
  cases v with
  | ref i =>
    obtain ⟨x1, x2⟩ := x
    have hi : i < b.length := by
      by_cases e : i < b.length
      · exact e
      · rw [items_ref, List.getElem?_eq_none (by omega)] at x1
        cases x1
    unfold IsL
    rw [items_ref, isL_ref', s.2 i hi]
    exact ⟨x1, x2⟩
  | _ => exact x
theorem IsL.fl {h : Hv} {vs : List Val} : IsL h (.fl vs) vs := ⟨rfl, rfl⟩
theorem IsL.of_ref {h : Hv} {i : Nat} {vs : List Val} (e : h[i]? = some (.lst vs)) : IsL h (.ref i) vs := by
  unfold IsL
  rw [items_ref, isL_ref', e]
  exact ⟨rfl, rfl⟩
/-- how values of a type stand in the semantics; arg: as arguments; red: where they are only read -/
class Enc (α : Type) where
  enc : α → Val
  arg : Val → α → Prop
  red : Hv → Val → α → Prop
  lt0 : ∀ a, (enc a).lt 0 = true
  arg_enc : ∀ a, arg (enc a) a
  red_arg : ∀ {h v a}, arg v a → red h v a
open Enc (enc arg red)
/-- a type whose arguments are their own values -/
@[reducible] def Enc.plain {α : Type} (enc : α → Val) (lt0 : ∀ a, (enc a).lt 0 = true) : Enc α := ⟨enc, fun v a => v = enc a, fun _ v a => v = enc a, lt0, fun _ => rfl, fun h => h⟩
instance : Enc Int := .plain .int fun _ => rfl
instance : Enc Bool := .plain .bl fun _ => rfl
instance : Enc Unit := .plain (fun _ => .non) fun _ => rfl
instance : Enc (List Nat) := .plain .str fun _ => rfl
instance : Enc D := .plain D.enc D.lt0
theorem lts0 {α : Type} {f : α → Val} (hf : ∀ a, (f a).lt 0 = true) : ∀ xs : List α, Val.lt.ltl 0 (xs.map f) = true
  | [] => rfl
  | x :: xs => by show (Val.lt 0 (f x) && Val.lt.ltl 0 (xs.map f)) = true; rw [hf x, lts0 hf xs]; rfl
section
variable {α β γ δ : Type} [Enc α] [Enc β] [Enc γ] [Enc δ]
instance : Enc (List α) := ⟨fun xs => .fl (xs.map enc), fun v xs => v = .fl (xs.map enc) ∨ v = .kl (xs.map enc), fun h v xs => IsL h v (xs.map enc), fun xs => lts0 Enc.lt0 xs, fun _ => .inl rfl, fun e => by rcases e with rfl | rfl <;> exact ⟨rfl, rfl⟩⟩
/-- a tuple of any length -/
structure Tu (α : Type) where
  l : List α
instance : Enc (Tu α) := .plain (fun t => .tup (t.l.map enc)) fun t => lts0 Enc.lt0 t.l
instance : Enc (Option α) := .plain (fun | none => .non | some a => enc a) fun | none => rfl | some a => Enc.lt0 a
structure P2 (α β : Type) where
  a : α
  b : β
structure P3 (α β γ : Type) where
  a : α
  b : β
  c : γ
structure P4 (α β γ δ : Type) where
  a : α
  b : β
  c : γ
  d : δ
structure P1 (α : Type) where
  a : α
theorem ltl_cons {v : Val} {vs : List Val} (h1 : v.lt 0 = true) (h2 : Val.lt.ltl 0 vs = true) : Val.lt.ltl 0 (v :: vs) = true := by show (Val.lt 0 v && Val.lt.ltl 0 vs) = true; rw [h1, h2]; rfl
instance : Enc (P1 α) := .plain (fun p => .tup [enc p.a]) fun p => ltl_cons (Enc.lt0 _) rfl
instance : Enc (P2 α β) := .plain (fun p => .tup [enc p.a, enc p.b]) fun p => ltl_cons (Enc.lt0 _) (ltl_cons (Enc.lt0 _) rfl)
instance : Enc (P3 α β γ) := .plain (fun p => .tup [enc p.a, enc p.b, enc p.c]) fun p => ltl_cons (Enc.lt0 _) (ltl_cons (Enc.lt0 _) (ltl_cons (Enc.lt0 _) rfl))
instance : Enc (P4 α β γ δ) := .plain (fun p => .tup [enc p.a, enc p.b, enc p.c, enc p.d]) fun p => ltl_cons (Enc.lt0 _) (ltl_cons (Enc.lt0 _) (ltl_cons (Enc.lt0 _) (ltl_cons (Enc.lt0 _) rfl)))
end

/-! ### results -/
inductive N (α : Type) where
  | ok (a : α) | exc (c : Nat) (v : List Val) | bad
def N.bind {α β : Type} (n : N α) (f : α → N β) : N β := match n with
  | .ok a => f a
  | .exc c v => .exc c v
  | .bad => .bad
@[simp] theorem N.ok_bind {α β : Type} {a : α} {f : α → N β} : (N.ok a).bind f = f a := rfl
@[simp] theorem N.bad_bind {α β : Type} {f : α → N β} : (N.bad : N α).bind f = .bad := rfl
@[simp] theorem N.exc_bind {α β : Type} {c : Nat} {v : List Val} {f : α → N β} : (N.exc c v : N α).bind f = .exc c v := rfl
theorem N.bind_assoc {α β γ : Type} {n : N α} {f : α → N β} {g : β → N γ} : (n.bind f).bind g = n.bind fun a => (f a).bind g := by cases n <;> rfl
/-- with a state -/
def N.bind2 {α σ β : Type} (n : N (α × σ)) (f : α → σ → N β) : N β := n.bind fun p => f p.1 p.2
@[simp] theorem N.ok_bind2 {α σ β : Type} {a : α} {s : σ} {f : α → σ → N β} : (N.ok (a, s)).bind2 f = f a s := rfl
/-- only if c -/
def N.chk {α : Type} (c : Prop) [Decidable c] (n : N α) : N α := if c then n else .bad
@[simp] theorem N.chk_t {α : Type} {c : Prop} [Decidable c] {n : N α} (h : c) : N.chk c n = n := if_pos h
def N.opt {α : Type} : Option α → N α
  | some a => .ok a
  | none => .bad
@[simp] theorem N.opt_some {α : Type} {a : α} : N.opt (some a) = .ok a := rfl

/-! ### lists and the like that a def makes and changes: which cells they take -/
structure Rep (α : Type) where
  p : Hv → Val → α → List Nat → Prop
  fr : ∀ {h h' : Hv} {v a F}, p h v a F → (∀ j ∈ F, h'[j]? = h[j]?) → p h' v a F
  lt : ∀ {h : Hv} {v a F}, p h v a F → ∀ j ∈ F, j < h.length
def rpF (α : Type) [Enc α] : Rep α := ⟨fun _ v a F => v = enc a ∧ F = [], fun h _ => h, fun h j hj => by rw [h.2] at hj; cases hj⟩
def RpL {α : Type} (r : Rep α) (h : Hv) : List Val → List α → List Nat → Prop
  | [], [], F => F = []
  | v :: vs, a :: as, F => ∃ F1 F2, F = F1 ++ F2 ∧ r.p h v a F1 ∧ RpL r h vs as F2
  | _, _, _ => False
theorem RpL.fr {α : Type} {r : Rep α} {h h' : Hv} : ∀ {vs : List Val} {as : List α} {F : List Nat}, RpL r h vs as F → (∀ j ∈ F, h'[j]? = h[j]?) → RpL r h' vs as F
  | [], [], _, e, _ => e
  | v :: vs, a :: as, _, ⟨F1, F2, e, p, q⟩, k => by
    subst e
    exact ⟨F1, F2, rfl, r.fr p fun j hj => k j (List.mem_append_left _ hj), RpL.fr q fun j hj => k j (List.mem_append_right _ hj)⟩
theorem RpL.lt {α : Type} {r : Rep α} {h : Hv} : ∀ {vs : List Val} {as : List α} {F : List Nat}, RpL r h vs as F → ∀ j ∈ F, j < h.length
  | [], [], _, e, j, hj => by rw [show _ = [] from e] at hj; cases hj
  | v :: vs, a :: as, _, ⟨F1, F2, e, p, q⟩, j, hj => by
    subst e
    rcases List.mem_append.mp hj with h1 | h1
    · exact r.lt p j h1
    · exact RpL.lt q j h1
theorem RpL.len {α : Type} {r : Rep α} {h : Hv} : ∀ {vs : List Val} {as : List α} {F : List Nat}, RpL r h vs as F → vs.length = as.length
  | [], [], _, _ => rfl
  | v :: vs, a :: as, _, ⟨F1, F2, e, p, q⟩ => by rw [List.length_cons, List.length_cons, RpL.len q]
theorem RpL.append {α : Type} {r : Rep α} {h : Hv} : ∀ {vs us : List Val} {as bs : List α} {F G : List Nat}, RpL r h vs as F → RpL r h us bs G → RpL r h (vs ++ us) (as ++ bs) (F ++ G)
  | [], us, [], bs, _, G, e, q => by rw [show _ = [] from e]; exact q
  | v :: vs, us, a :: as, bs, _, G, ⟨F1, F2, e, p, q⟩, k => by
    subst e
    exact ⟨F1, F2 ++ G, by rw [List.append_assoc], p, RpL.append q k⟩
theorem RpL.plain {α : Type} [Enc α] {h : Hv} : ∀ {vs : List Val} {as : List α} {F : List Nat}, RpL (rpF α) h vs as F → vs = as.map enc ∧ F = []
  | [], [], _, e => ⟨rfl, e⟩
  | v :: vs, a :: as, _, ⟨F1, F2, e, p, q⟩ => by
    obtain ⟨q1, q2⟩ := RpL.plain q
    obtain ⟨p1, p2⟩ := p
    subst e p1 p2 q1 q2
    exact ⟨rfl, rfl⟩
theorem RpL.mk {α : Type} [Enc α] {h : Hv} : ∀ (as : List α), RpL (rpF α) h (as.map enc) as []
  | [] => rfl
  | a :: as => ⟨[], [], rfl, ⟨rfl, rfl⟩, RpL.mk as⟩
/-- a list in a cell -/
def rpL {α : Type} (r : Rep α) : Rep (List α) where
  p h v as F := ∃ n ws F', v = .ref n ∧ h[n]? = some (.lst ws) ∧ F = n :: F' ∧ RpL r h ws as F'
  fr := fun ⟨n, ws, F', e1, e2, e3, q⟩ k => ⟨n, ws, F', e1, by rw [k n (by rw [e3]; exact List.mem_cons_self)]; exact e2, e3, q.fr fun j hj => k j (by rw [e3]; exact List.mem_cons_of_mem _ hj)⟩
  lt := fun ⟨n, ws, F', e1, e2, e3, q⟩ j hj => by
    rw [e3] at hj
    rcases List.mem_cons.mp hj with z | z
    · rw [z]; exact (List.getElem?_eq_some_iff.mp e2).1
    · exact q.lt j z
/-- a list that stays, of things that change -/
def rpS {α : Type} (r : Rep α) : Rep (List α) where
  p h v as F := ∃ ws, v = .fl ws ∧ RpL r h ws as F
  fr := fun ⟨ws, e, q⟩ k => ⟨ws, e, q.fr k⟩
  lt := fun ⟨ws, e, q⟩ => q.lt
structure OI where
  v : Val
  P : Hv → List Nat → Prop
  fr : ∀ {h h' : Hv} {F}, P h F → (∀ j ∈ F, h'[j]? = h[j]?) → P h' F
  lt : ∀ {h : Hv} {F}, P h F → ∀ j ∈ F, j < h.length
def OI.of {α : Type} (r : Rep α) (v : Val) (a : α) : OI := ⟨v, fun h F => r.p h v a F, r.fr, r.lt⟩
def OPs (h : Hv) : List OI → List Nat → Prop
  | [], F => F = []
  | o :: os, F => ∃ F1 F2, F = F1 ++ F2 ∧ o.P h F1 ∧ OPs h os F2
theorem OPs.fr {h h' : Hv} : ∀ {os : List OI} {F : List Nat}, OPs h os F → (∀ j ∈ F, h'[j]? = h[j]?) → OPs h' os F
  | [], _, e, _ => e
  | o :: os, _, ⟨F1, F2, e, p, q⟩, k => by
    subst e
    exact ⟨F1, F2, rfl, o.fr p fun j hj => k j (List.mem_append_left _ hj), OPs.fr q fun j hj => k j (List.mem_append_right _ hj)⟩
theorem OPs.lt {h : Hv} : ∀ {os : List OI} {F : List Nat}, OPs h os F → ∀ j ∈ F, j < h.length
  | [], _, e, j, hj => by rw [show _ = [] from e] at hj; cases hj
  | o :: os, _, ⟨F1, F2, e, p, q⟩, j, hj => by
    subst e
    rcases List.mem_append.mp hj with z | z
    · exact o.lt p j z
    · exact OPs.lt q j z
theorem OPs.append {h : Hv} : ∀ {os us : List OI} {F G : List Nat}, OPs h os F → OPs h us G → OPs h (os ++ us) (F ++ G)
  | [], _, _, _, e, q => by rw [show _ = [] from e]; exact q
  | o :: os, us, _, G, ⟨F1, F2, e, p, q⟩, k => by subst e; exact ⟨F1, F2 ++ G, by rw [List.append_assoc], p, OPs.append q k⟩
/-- the cells that were there, and those of them that the def may change -/
structure Bse where
  h : Hv
  X : List Nat
def Bx (b : Bse) (h : Hv) : Prop := b.h.length ≤ h.length ∧ ∀ j, j < b.h.length → j ∉ b.X → h[j]? = b.h[j]?
theorem Bx.refl {h : Hv} {X : List Nat} : Bx ⟨h, X⟩ h := ⟨Nat.le_refl _, fun _ _ _ => rfl⟩
/-- what a def has made or may change, beside the cells b that were there -/
def Holds (b : Bse) (os : List OI) (h : Hv) : Prop := Bx b h ∧ ∃ F, OPs h os F ∧ F.Nodup ∧ ∀ j ∈ F, j ∈ b.X ∨ b.h.length ≤ j
theorem Holds.nil {b : Bse} {h : Hv} (s : Bx b h) : Holds b [] h := ⟨s, [], rfl, List.nodup_nil, fun _ z => nomatch z⟩
/-- one thing among them: itself, and what stands when it alone is changed -/
theorem OPs.at {h : Hv} : ∀ {os : List OI} {k : Nat} {o : OI} {F : List Nat}, os[k]? = some o → OPs h os F → ∃ A B C, F = A ++ B ++ C ∧ o.P h B ∧
    ∀ (h' : Hv) (o' : OI) (B' : List Nat), (∀ j, j ∈ A ∨ j ∈ C → h'[j]? = h[j]?) → o'.P h' B' → OPs h' (os.set k o') (A ++ B' ++ C)
  | [], _, _, _, e, _ => by simp at e
  | o :: os, 0, o1, _, e, ⟨F1, F2, e1, p, q⟩ => by
    simp at e; subst e e1
    refine ⟨[], F1, F2, by simp, p, fun h' o' B' k p' => ?_⟩
    rw [List.set_cons_zero, List.nil_append]
    exact ⟨B', F2, rfl, p', q.fr fun j hj => k j (.inr hj)⟩
  | o :: os, k + 1, o1, _, e, ⟨F1, F2, e1, p, q⟩ => by
    subst e1
    obtain ⟨A, B, C, e2, pb, g⟩ := OPs.at (k := k) (by simpa using e) q
    subst e2
    refine ⟨F1 ++ A, B, C, by simp [List.append_assoc], pb, fun h' o' B' kk p' => ?_⟩
    rw [List.set_cons_succ]
    refine ⟨F1, A ++ B' ++ C, by simp [List.append_assoc], o.fr p fun j hj => kk j (.inl (List.mem_append_left _ hj)), g h' o' B' (fun j hj => ?_) p'⟩
    rcases hj with z | z
    · exact kk j (.inl (List.mem_append_right _ z))
    · exact kk j (.inr z)
theorem Holds.get {b : Bse} {h : Hv} {os : List OI} {k : Nat} {o : OI} (H : Holds b os h) (e : os[k]? = some o) : ∃ B, o.P h B := by
  obtain ⟨_, F, p, _⟩ := H
  obtain ⟨A, B, C, _, pb, _⟩ := OPs.at e p
  exact ⟨B, pb⟩
/-- a thing changed: at cells of its own, or at new cells -/
theorem Holds.put {b : Bse} {h h' : Hv} {os : List OI} {k : Nat} {o o' : OI} (H : Holds b os h) (e : os[k]? = some o)
    (c : ∀ B, o.P h B → B.Nodup → ∃ B', o'.P h' B' ∧ B'.Nodup ∧ (∀ j ∈ B', j ∈ B ∨ h.length ≤ j) ∧ ∀ j, j < h.length → j ∉ B → h'[j]? = h[j]?) (hl : h.length ≤ h'.length) : Holds b (os.set k o') h' := by
  obtain ⟨s, F, p, nd, lo⟩ := H
  have pl := p.lt
  obtain ⟨A, B, C, eF, pb, g⟩ := OPs.at e p
  subst eF
  have ndB : B.Nodup := (List.nodup_append.mp (List.nodup_append.mp nd).1).2.1
  obtain ⟨B', p', nd', sub, fr⟩ := c B pb ndB
  obtain ⟨nd1, ndC, dj1⟩ := List.nodup_append.mp nd
  obtain ⟨ndA, _, dj2⟩ := List.nodup_append.mp nd1
  have lB : ∀ j ∈ B', j ∉ A ∧ j ∉ C := fun j hj => by
    rcases sub j hj with z | z
    · exact ⟨fun y => dj2 j y j z rfl, fun y => dj1 j (List.mem_append_right _ z) j y rfl⟩
    · exact ⟨fun y => by have := pl j (by simp [y]); omega, fun y => by have := pl j (by simp [y]); omega⟩
  refine ⟨⟨Nat.le_trans s.1 hl, fun j hj hx => ?_⟩, A ++ B' ++ C, g h' o' B' (fun j hj => fr j ?_ ?_) p', ?_, fun j hj => ?_⟩
  · refine (fr j (Nat.lt_of_lt_of_le hj s.1) fun z => ?_).trans (s.2 j hj hx)
    rcases lo j (by simp [z]) with w | w
    · exact hx w
    · omega
  · rcases hj with z | z
    · exact pl j (by simp [z])
    · exact pl j (by simp [z])
  · rcases hj with z | z
    · exact fun y => dj2 j z j y rfl
    · exact fun y => dj1 j (List.mem_append_right _ y) j z rfl
  · refine List.nodup_append.mpr ⟨List.nodup_append.mpr ⟨ndA, nd', fun x hx y hy z => (lB y hy).1 (z ▸ hx)⟩, ndC, fun x hx y hy z => ?_⟩
    subst z
    rcases List.mem_append.mp hx with w | w
    · exact dj1 x (List.mem_append_left _ w) x hy rfl
    · exact (lB x w).2 hy
  · rcases List.mem_append.mp hj with z | z
    · rcases List.mem_append.mp z with w | w
      · exact lo j (by simp [w])
      · rcases sub j w with y | y
        · exact lo j (by simp [y])
        · exact .inr (Nat.le_trans s.1 y)
    · exact lo j (by simp [z])
/-- a new thing, at new cells -/
theorem Holds.new {b : Bse} {h h' : Hv} {os : List OI} {o : OI} {B : List Nat} (H : Holds b os h) (p' : o.P h' B) (nd' : B.Nodup) (hB : ∀ j ∈ B, h.length ≤ j) (s' : Bs h h') : Holds b (os ++ [o]) h' := by
  obtain ⟨s, F, p, nd, lo⟩ := H
  have pl := p.lt
  refine ⟨⟨Nat.le_trans s.1 s'.1, fun j hj hx => (s'.2 j (Nat.lt_of_lt_of_le hj s.1)).trans (s.2 j hj hx)⟩, F ++ B, (p.fr fun j hj => s'.2 j (pl j hj)).append ⟨B, [], by simp, p', rfl⟩, List.nodup_append.mpr ⟨nd, nd', fun x hx y hy z => ?_⟩, fun j hj => ?_⟩
  · subst z
    have := pl x hx; have := hB x hy; omega
  · rcases List.mem_append.mp hj with z | z
    · exact lo j z
    · exact .inr (Nat.le_trans s.1 (hB j z))
theorem OPs.cut {h : Hv} : ∀ {os us : List OI} {F : List Nat}, OPs h (os ++ us) F → ∃ F1 F2, F = F1 ++ F2 ∧ OPs h os F1
  | [], us, F, _ => ⟨[], F, rfl, rfl⟩
  | o :: os, us, _, ⟨F1, F2, e, p, q⟩ => by
    obtain ⟨G1, G2, e2, p2⟩ := OPs.cut q
    subst e e2
    exact ⟨F1 ++ G1, G2, by rw [List.append_assoc], F1, G1, rfl, p, p2⟩
theorem Holds.cut {b : Bse} {h : Hv} {os us : List OI} (H : Holds b (os ++ us) h) : Holds b os h := by
  obtain ⟨s, F, p, nd, lo⟩ := H
  obtain ⟨F1, F2, e, q⟩ := OPs.cut p
  subst e
  exact ⟨s, F1, q, (List.nodup_append.mp nd).1, fun j hj => lo j (List.mem_append_left _ hj)⟩
end Nx

set_option Elab.async false
set_option linter.all false
set_option maxRecDepth 100000
set_option maxHeartbeats 2000000
/-! NxExpr: expressions -/
namespace Nx
open Sx
open Enc (enc arg red)
section
variable {α β γ δ ε ζ : Type} [Enc α] [Enc β] [Enc γ] [Enc δ] [Enc ε] [Enc ζ]
def Sim (r : R Val) (n : N α) (h : Hv) : Prop := match n with
  | .ok a => r = .ok (enc a) h
  | .exc c v => r = .exc c v h
  | .bad => True
abbrev As := Hv → Prop
def EJ (A : As) (sv : Env) (fe : SE) (n : N α) : Prop := ∀ h, A h → Sim (fe sv h) n h
def TsJ (A : As) (sv : Env) (ft : ST) (n : N Bool) : Prop := ∀ h, A h → match n with
  | .ok b => ft sv h = .ok b h
  | .exc c v => ft sv h = .exc c v h
  | .bad => True
def VJ (A : As) (sv : Env) (fe : SE) (n : N α) : Prop := ∀ h, A h → match n with
  | .ok a => ∃ v, fe sv h = .ok v h ∧ arg v a
  | .exc c v => fe sv h = .exc c v h
  | .bad => True
def RJ (A : As) (sv : Env) (fe : SE) (n : N α) : Prop := ∀ h, A h → match n with
  | .ok a => ∃ v, fe sv h = .ok v h ∧ red h v a
  | .exc c v => fe sv h = .exc c v h
  | .bad => True
/-- a list of things, each by itself -/
def LsJ (A : As) (sv : Env) (fs : SA) (n : N (List α)) : Prop := ∀ h, A h → match n with
  | .ok as => fs sv h = .ok (as.map enc) h
  | .exc c v => fs sv h = .exc c v h
  | .bad => True
variable {A : As} {sv : Env} {fa fb fc fd fe : SE} {na : N α} {nb : N β} {nc : N γ} {nd : N δ} {ft fu : ST} {nt nu : N Bool}
theorem ej_c {v : Val} {a : α} (e : v = enc a) : EJ A sv (sC v) (.ok a) := fun h _ => by subst e; rfl
theorem ej_v {i : Nat} {a : α} (e : sv[i]? = some (some (enc a))) : EJ A sv (sVar i) (.ok a) := fun h _ => by
  show sVar i sv h = _
  unfold sVar
  rw [e]
theorem vj_e (h : EJ A sv fa na) : VJ A sv fa na := fun k hk => by
  have := h k hk
  cases na with
  | ok a => exact ⟨_, this, Enc.arg_enc _⟩
  | exc c v => exact this
  | bad => trivial
theorem rj_v (h : VJ A sv fa na) : RJ A sv fa na := fun k hk => by
  have := h k hk
  cases na with
  | ok a => obtain ⟨v, e, a1⟩ := this; exact ⟨v, e, Enc.red_arg a1⟩
  | exc c v => exact this
  | bad => trivial
theorem rj_e (h : EJ A sv fa na) : RJ A sv fa na := rj_v (vj_e h)
theorem rj_own {b : Bse} {own : List OI} {i k : Nat} {v : Val} {xs : List α} (e : sv[i]? = some (some v)) (hk : own[k]? = some (OI.of (rpL (rpF α)) v xs)) : RJ (Holds b own) sv (sVar i) (.ok xs) := fun h H => by
  obtain ⟨B, n, ws, F', e1, e2, e3, q⟩ := H.get hk
  have q := q.plain
  rw [q.1] at e2
  refine ⟨v, ?_, ?_⟩
  · unfold sVar; rw [e]
  · rw [e1]; exact IsL.of_ref e2
theorem vj_var {i : Nat} {v : Val} {a : α} (e : sv[i]? = some (some v)) (ha : arg v a) : VJ A sv (sVar i) (.ok a) := fun h H => ⟨v, by unfold sVar; rw [e], ha⟩
theorem ej_bin {g : Val → Val → Hv → R Val} {op : α → β → N γ} (hop : ∀ h v w a b, red h v a → red h w b → Sim (g v w h) (op a b) h) (ha : RJ A sv fa na) (hb : RJ A sv fb nb) : EJ A sv (sBin g fa fb) (na.bind fun a => nb.bind fun b => op a b) := fun h k => by
  have ha := ha h k
  have hb := hb h k
  cases na with
  | bad => trivial
  | exc c v => show sBin g fa fb sv h = _; unfold sBin; rw [show fa sv h = .exc c v h from ha]; rfl
  | ok a =>
    obtain ⟨v, e1, a1⟩ := ha
    cases nb with
    | bad => trivial
    | exc c v => show sBin g fa fb sv h = _; unfold sBin; rw [e1, bind_ok, show fb sv h = .exc c v h from hb]; rfl
    | ok b =>
      obtain ⟨w, e2, a2⟩ := hb
      show Sim (sBin g fa fb sv h) (op a b) h
      unfold sBin
      rw [e1, bind_ok, e2, bind_ok]
      exact hop h v w a b a1 a2
theorem ej_binE {g : Val → Val → Hv → R Val} {op : α → β → N γ} (hop : ∀ h a b, Sim (g (enc a) (enc b) h) (op a b) h) (ha : EJ A sv fa na) (hb : EJ A sv fb nb) : EJ A sv (sBin g fa fb) (na.bind fun a => nb.bind fun b => op a b) := fun h k => by
  have ha := ha h k
  have hb := hb h k
  cases na with
  | bad => trivial
  | exc c v => show sBin g fa fb sv h = _; unfold sBin; rw [show fa sv h = .exc c v h from ha]; rfl
  | ok a =>
    cases nb with
    | bad => trivial
    | exc c v => show sBin g fa fb sv h = _; unfold sBin; rw [show fa sv h = .ok (enc a) h from ha, bind_ok, show fb sv h = .exc c v h from hb]; rfl
    | ok b =>
      show Sim (sBin g fa fb sv h) (op a b) h
      unfold sBin
      rw [show fa sv h = .ok (enc a) h from ha, bind_ok, show fb sv h = .ok (enc b) h from hb, bind_ok]
      exact hop h a b
theorem ej_un {g : Val → Hv → R Val} {op : α → N β} (hop : ∀ h v a, red h v a → Sim (g v h) (op a) h) (ha : RJ A sv fa na) : EJ A sv (sUn g fa) (na.bind op) := fun h k => by
  have ha := ha h k
  cases na with
  | bad => trivial
  | exc c v => show sUn g fa sv h = _; unfold sUn; rw [show fa sv h = .exc c v h from ha]; rfl
  | ok a =>
    obtain ⟨v, e1, a1⟩ := ha
    show Sim (sUn g fa sv h) (op a) h
    unfold sUn
    rw [e1, bind_ok]
    exact hop h v a a1
/-- nothing is done, but another type -/
theorem ej_as {op : α → N β} (hop : ∀ a b, op a = .ok b → enc b = enc a) (hx : ∀ a c v, op a ≠ .exc c v) (ha : EJ A sv fa na) : EJ A sv fa (na.bind op) := fun h k => by
  have ha := ha h k
  cases na with
  | bad => trivial
  | exc c v => exact ha
  | ok a =>
    show Sim (fa sv h) (op a) h
    cases e : op a with
    | bad => trivial
    | exc c v => exact absurd e (hx _ _ _)
    | ok b => show fa sv h = .ok (enc b) h; rw [hop a b e]; exact ha
theorem vj_as {op : α → N β} (hop : ∀ a b h v, red h v a → op a = .ok b → red h v b) (hx : ∀ a c v, op a ≠ .exc c v) (ha : RJ A sv fa na) : RJ A sv fa (na.bind op) := fun h k => by
  have ha := ha h k
  cases na with
  | bad => trivial
  | exc c v => exact ha
  | ok a =>
    obtain ⟨v, e1, a1⟩ := ha
    cases e : op a with
    | bad => simp only [N.ok_bind, e]
    | exc c v => exact absurd e (hx _ _ _)
    | ok b => simp only [N.ok_bind, e]; exact ⟨v, e1, hop _ _ _ _ a1 e⟩
theorem ej_if {n1 n2 : N α} (ht : TsJ A sv ft nt) (h1 : EJ A sv fa n1) (h2 : EJ A sv fb n2) : EJ A sv (sIf ft fa fb) (nt.bind fun k => if k = true then n1 else n2) := fun h k => by
  have ht := ht h k
  cases nt with
  | bad => trivial
  | exc c v => show sIf ft fa fb sv h = _; unfold sIf; rw [show ft sv h = .exc c v h from ht]; rfl
  | ok b =>
    show Sim (sIf ft fa fb sv h) (if b = true then n1 else n2) h
    unfold sIf
    rw [show ft sv h = .ok b h from ht, bind_ok]
    cases b
    · exact h2 h k
    · exact h1 h k
/-! tests -/
theorem ts_e {n : N Bool} (ha : EJ A sv fa n) : TsJ A sv (sTest fa) n := fun h k => by
  have ha := ha h k
  cases n with
  | bad => trivial
  | exc c v => show sTest fa sv h = _; unfold sTest; rw [show fa sv h = .exc c v h from ha]; rfl
  | ok b => show sTest fa sv h = _; unfold sTest; rw [show fa sv h = .ok (.bl b) h from ha]; rfl
theorem ts_and (h1 : TsJ A sv ft nt) (h2 : TsJ A sv fu nu) : TsJ A sv (tAnd' ft fu) (nt.bind fun k => if k = true then nu else .ok false) := fun h k => by
  have h1 := h1 h k
  cases nt with
  | bad => trivial
  | exc c v => show tAnd' ft fu sv h = _; unfold tAnd'; rw [show ft sv h = .exc c v h from h1]; rfl
  | ok b =>
    have e : tAnd' ft fu sv h = if b = true then fu sv h else .ok false h := by unfold tAnd'; rw [show ft sv h = .ok b h from h1]; rfl
    rw [e]
    cases b
    · rfl
    · exact h2 h k
theorem ts_or (h1 : TsJ A sv ft nt) (h2 : TsJ A sv fu nu) : TsJ A sv (tOr' ft fu) (nt.bind fun k => if k = true then .ok true else nu) := fun h k => by
  have h1 := h1 h k
  cases nt with
  | bad => trivial
  | exc c v => show tOr' ft fu sv h = _; unfold tOr'; rw [show ft sv h = .exc c v h from h1]; rfl
  | ok b =>
    have e : tOr' ft fu sv h = if b = true then .ok true h else fu sv h := by unfold tOr'; rw [show ft sv h = .ok b h from h1]; rfl
    rw [e]
    cases b
    · exact h2 h k
    · rfl
theorem ts_not (h1 : TsJ A sv ft nt) : TsJ A sv (tNot' ft) (nt.bind fun k => .ok (!k)) := fun h k => by
  have h1 := h1 h k
  cases nt with
  | bad => trivial
  | exc c v => show tNot' ft sv h = _; unfold tNot'; rw [show ft sv h = .exc c v h from h1]; rfl
  | ok b => show tNot' ft sv h = _; unfold tNot'; rw [show ft sv h = .ok b h from h1]; rfl
theorem ts_tru {op : α → N Bool} (hop : ∀ h v a b, red h v a → op a = .ok b → truB v h = some b) (hx : ∀ a c v, op a ≠ .exc c v) (ha : RJ A sv fa na) : TsJ A sv (sTru fa) (na.bind op) := fun h k => by
  have ha := ha h k
  cases na with
  | bad => trivial
  | exc c v => show sTru fa sv h = _; unfold sTru; rw [show fa sv h = .exc c v h from ha]; rfl
  | ok a =>
    obtain ⟨v, e1, a1⟩ := ha
    cases e : op a with
    | bad => simp only [N.ok_bind, e]
    | exc c v => exact absurd e (hx _ _ _)
    | ok b =>
      simp only [N.ok_bind, e]
      unfold sTru
      rw [e1, bind_ok, hop h v a b a1 e]
/-! and, or, not as values -/
theorem ej_and {n1 n2 : N Bool} (h1 : EJ A sv fa n1) (h2 : EJ A sv fb n2) : EJ A sv (sAnd fa fb) (n1.bind fun k => if k = true then n2 else .ok false) := fun h k => by
  have h1 := h1 h k
  cases n1 with
  | bad => trivial
  | exc c v => show sAnd fa fb sv h = _; unfold sAnd; rw [show fa sv h = .exc c v h from h1]; rfl
  | ok b =>
    have e : sAnd fa fb sv h = if b = true then fb sv h else .ok (.bl false) h := by unfold sAnd; rw [show fa sv h = .ok (.bl b) h from h1]; cases b <;> rfl
    show Sim (sAnd fa fb sv h) (if b = true then n2 else .ok false) h
    rw [e]
    cases b
    · rfl
    · exact h2 h k
theorem ej_or {n1 n2 : N Bool} (h1 : EJ A sv fa n1) (h2 : EJ A sv fb n2) : EJ A sv (sOr fa fb) (n1.bind fun k => if k = true then .ok true else n2) := fun h k => by
  have h1 := h1 h k
  cases n1 with
  | bad => trivial
  | exc c v => show sOr fa fb sv h = _; unfold sOr; rw [show fa sv h = .exc c v h from h1]; rfl
  | ok b =>
    have e : sOr fa fb sv h = if b = true then .ok (.bl true) h else fb sv h := by unfold sOr; rw [show fa sv h = .ok (.bl b) h from h1]; cases b <;> rfl
    show Sim (sOr fa fb sv h) (if b = true then .ok true else n2) h
    rw [e]
    cases b
    · exact h2 h k
    · rfl
theorem ej_not {n1 : N Bool} (h1 : EJ A sv fa n1) : EJ A sv (sNotV fa) (n1.bind fun k => .ok (!k)) := fun h k => by
  have h1 := h1 h k
  cases n1 with
  | bad => trivial
  | exc c v => show sNotV fa sv h = _; unfold sNotV; rw [show fa sv h = .exc c v h from h1]; rfl
  | ok b => show sNotV fa sv h = _; unfold sNotV; rw [show fa sv h = .ok (.bl b) h from h1]; rfl
theorem ej_chain {g g' : Val → Val → Hv → R Val} {op : α → β → N Bool} {op' : β → γ → N Bool} (hop : ∀ h v w a b, red h v a → red h w b → Sim (g v w h) (op a b) h) (hop' : ∀ h v w a b, red h v a → red h w b → Sim (g' v w h) (op' a b) h)
    (ha : RJ A sv fa na) (hb : RJ A sv fb nb) (hc : RJ A sv fc nc) : EJ A sv (sChain g g' fa fb fc) (na.bind fun a => nb.bind fun b => (op a b).bind fun k => if k = true then nc.bind fun c => op' b c else .ok false) := fun h k => by
  have ha := ha h k
  have hb := hb h k
  have hc := hc h k
  cases na with
  | bad => trivial
  | exc c v => show sChain g g' fa fb fc sv h = _; unfold sChain; rw [show fa sv h = .exc c v h from ha]; rfl
  | ok a =>
    obtain ⟨v, e1, a1⟩ := ha
    cases nb with
    | bad => trivial
    | exc c v => show sChain g g' fa fb fc sv h = _; unfold sChain; rw [e1, bind_ok, show fb sv h = .exc c v h from hb]; rfl
    | ok b =>
      obtain ⟨w, e2, a2⟩ := hb
      show Sim (sChain g g' fa fb fc sv h) ((op a b).bind fun k => if k = true then nc.bind fun c => op' b c else .ok false) h
      have o1 := hop h v w a b a1 a2
      unfold sChain
      rw [e1, bind_ok, e2, bind_ok]
      cases e : op a b with
      | bad => trivial
      | exc c v' => rw [e] at o1; rw [show g v w h = .exc c v' h from o1]; rfl
      | ok k =>
        rw [e] at o1
        rw [show g v w h = .ok (.bl k) h from o1, bind_ok]
        cases k with
        | false => rfl
        | true =>
          show Sim ((fc sv h).bind fun u h4 => g' w u h4) (nc.bind fun c => op' b c) h
          cases nc with
          | bad => trivial
          | exc c v => rw [show fc sv h = .exc c v h from hc]; rfl
          | ok c =>
            obtain ⟨u, e3, a3⟩ := hc
            rw [e3, bind_ok]
            exact hop' h w u b c a2 a3
/-! lists of things -/
theorem ls_nil : LsJ A sv sNil (.ok ([] : List α)) := fun _ _ => rfl
theorem ls_cons {fs : SA} {ns : N (List α)} (h1 : EJ A sv fa na) (h2 : LsJ A sv fs ns) : LsJ A sv (sCons fa fs) (na.bind fun a => ns.bind fun as => .ok (a :: as)) := fun h k => by
  have h1 := h1 h k
  have h2 := h2 h k
  cases na with
  | bad => trivial
  | exc c v => show sCons fa fs sv h = _; unfold sCons; rw [show fa sv h = .exc c v h from h1]; rfl
  | ok a =>
    have h1 : fa sv h = .ok (enc a) h := h1
    cases ns with
    | bad => trivial
    | exc c v => show sCons fa fs sv h = _; unfold sCons; rw [h1, bind_ok, show fs sv h = .exc c v h from h2]; rfl
    | ok as => show sCons fa fs sv h = _; unfold sCons; rw [h1, bind_ok, show fs sv h = .ok (as.map enc) h from h2]; rfl
/-- a list's size is bounded -/
def szN {α : Type} (xs : List α) : N (List α) := .chk (xs.length ≤ 16777216) (.ok xs)
theorem ej_lst {fs : SA} {ns : N (List α)} (h1 : LsJ A sv fs ns) : EJ A sv (sLst fs) (ns.bind szN) := fun h k => by
  have h1 := h1 h k
  cases ns with
  | bad => trivial
  | exc c v => show sLst fs sv h = _; unfold sLst; rw [show fs sv h = .exc c v h from h1]; rfl
  | ok as =>
    show Sim (sLst fs sv h) (szN as) h
    unfold sLst szN N.chk
    rw [show fs sv h = .ok (as.map enc) h from h1, bind_ok, List.length_map]
    split
    · rfl
    · trivial
theorem ej_tuN {fs : SA} {ns : N (List α)} (h1 : LsJ A sv fs ns) : EJ A sv (sTup fs) (ns.bind fun as => (szN as).bind fun as => .ok (Tu.mk as)) := fun h k => by
  have h1 := h1 h k
  cases ns with
  | bad => trivial
  | exc c v => show sTup fs sv h = _; unfold sTup; rw [show fs sv h = .exc c v h from h1]; rfl
  | ok as =>
    show Sim (sTup fs sv h) ((szN as).bind fun as => .ok (Tu.mk as)) h
    unfold sTup szN N.chk
    rw [show fs sv h = .ok (as.map enc) h from h1, bind_ok, List.length_map]
    split
    · rfl
    · trivial
theorem ej_tupD {fs : SA} {ns : N (List D)} (h1 : LsJ A sv fs ns) : EJ A sv (sTup fs) (ns.bind fun as => (szN as).bind fun as => .ok (D.tup as)) := fun h k => by
  have h1 := h1 h k
  cases ns with
  | bad => trivial
  | exc c v => show sTup fs sv h = _; unfold sTup; rw [show fs sv h = .exc c v h from h1]; rfl
  | ok as =>
    show Sim (sTup fs sv h) ((szN as).bind fun as => .ok (D.tup as)) h
    unfold sTup szN N.chk
    rw [show fs sv h = .ok (as.map enc) h from h1, bind_ok, List.length_map]
    split
    · show R.ok (Val.tup (as.map enc)) h = .ok (Val.tup (D.encs as)) h
      rw [D.encs_map]; rfl
    · trivial
theorem ej_lstD {fs : SA} {ns : N (List D)} (h1 : LsJ A sv fs ns) : EJ A sv (sLst fs) (ns.bind fun as => (szN as).bind fun as => .ok (D.fl as)) := fun h k => by
  have h1 := h1 h k
  cases ns with
  | bad => trivial
  | exc c v => show sLst fs sv h = _; unfold sLst; rw [show fs sv h = .exc c v h from h1]; rfl
  | ok as =>
    show Sim (sLst fs sv h) ((szN as).bind fun as => .ok (D.fl as)) h
    unfold sLst szN N.chk
    rw [show fs sv h = .ok (as.map enc) h from h1, bind_ok, List.length_map]
    split
    · show R.ok (Val.fl (as.map enc)) h = .ok (Val.fl (D.encs as)) h
      rw [D.encs_map]; rfl
    · trivial
/-! calls: arguments one by one -/
def AsJ (A : As) (sv : Env) (fs : SA) {τ : Type} (R : Hv → List Val → τ → Prop) (n : N τ) : Prop := ∀ h, A h → match n with
  | .ok t => ∃ vs, fs sv h = .ok vs h ∧ R h vs t
  | .exc c v => fs sv h = .exc c v h
  | .bad => True
def R0 : Hv → List Val → Unit → Prop := fun _ vs _ => vs = []
def RC (τ : Type) (R : Hv → List Val → τ → Prop) : Hv → List Val → α × τ → Prop := fun h vs p => ∃ v r, vs = v :: r ∧ arg v p.1 ∧ R h r p.2
theorem as_nil : AsJ A sv sNil R0 (.ok ()) := fun _ _ => ⟨[], rfl, rfl⟩
theorem as_cons {fs : SA} {τ : Type} {R : Hv → List Val → τ → Prop} {ns : N τ} (h1 : VJ A sv fa na) (h2 : AsJ A sv fs R ns) : AsJ A sv (sCons fa fs) (RC τ R) (na.bind fun a => ns.bind fun t => .ok (a, t)) := fun h k => by
  have h1 := h1 h k
  have h2 := h2 h k
  cases na with
  | bad => trivial
  | exc c v => show sCons fa fs sv h = _; unfold sCons; rw [show fa sv h = .exc c v h from h1]; rfl
  | ok a =>
    obtain ⟨v, e1, a1⟩ := h1
    cases ns with
    | bad => trivial
    | exc c v => show sCons fa fs sv h = _; unfold sCons; rw [e1, bind_ok, show fs sv h = .exc c v h from h2]; rfl
    | ok t =>
      obtain ⟨vs, e2, a2⟩ := h2
      exact ⟨v :: vs, by unfold sCons; rw [e1, bind_ok, e2]; rfl, v, vs, rfl, a1, a2⟩
theorem ej_call {fs : SA} {τ : Type} {R : Hv → List Val → τ → Prop} {ns : N τ} {G : SF} {op : τ → N β} (hG : ∀ h vs t, R h vs t → Sim (G vs h) (op t) h) (h1 : AsJ A sv fs R ns) : EJ A sv (sCall G fs) (ns.bind op) := fun h k => by
  have h1 := h1 h k
  cases ns with
  | bad => trivial
  | exc c v => show sCall G fs sv h = _; unfold sCall; rw [show fs sv h = .exc c v h from h1]; rfl
  | ok t =>
    obtain ⟨vs, e1, a1⟩ := h1
    show Sim (sCall G fs sv h) (op t) h
    unfold sCall
    rw [e1, bind_ok]
    exact hG h vs t a1
/-- a def of one argument, of two, .. -/
def noE {α : Type} : N α → N α
  | .exc _ _ => .bad
  | n => n
/-- what a def tells: what it raises is left open here -/
def SimO (r : R Val) (n : N α) (h : Hv) : Prop := match n with
  | .ok a => r = .ok (enc a) h
  | _ => True
theorem sim_noX {r : R Val} {n : N α} {h : Hv} (s : SimO r n h) : Sim (noX r) (noE n) h := by
  cases n with
  | ok a => rw [show r = .ok (enc a) h from s]; rfl
  | exc c v => trivial
  | bad => trivial
def D1 (G : SF) (f : α → N β) : Prop := ∀ h v1 a, arg v1 a → SimO (G [v1] h) (f a) h
def D2 (G : SF) (f : α → β → N γ) : Prop := ∀ h v1 v2 a b, arg v1 a → arg v2 b → SimO (G [v1, v2] h) (f a b) h
def D3 (G : SF) (f : α → β → γ → N δ) : Prop := ∀ h v1 v2 v3 a b c, arg v1 a → arg v2 b → arg v3 c → SimO (G [v1, v2, v3] h) (f a b c) h
def D4 (G : SF) (f : α → β → γ → δ → N ε) : Prop := ∀ h v1 v2 v3 v4 a b c d, arg v1 a → arg v2 b → arg v3 c → arg v4 d → SimO (G [v1, v2, v3, v4] h) (f a b c d) h
def D5 (G : SF) (f : α → β → γ → δ → ε → N ζ) : Prop := ∀ h v1 v2 v3 v4 v5 a b c d e, arg v1 a → arg v2 b → arg v3 c → arg v4 d → arg v5 e → SimO (G [v1, v2, v3, v4, v5] h) (f a b c d e) h
theorem ej_d1 {G : SF} {f : α → N β} (hG : D1 G f) (h1 : VJ A sv fa na) : EJ A sv (sCall (callF 1 G) (sCons fa sNil)) (na.bind fun a => noE (f a)) := by
  have := ej_call (G := callF 1 G) (op := fun t : α × Unit => noE (f t.1)) (fun h vs t r => by
    obtain ⟨v1, r1, rfl, a1, q1⟩ := r
    cases q1
    exact sim_noX (hG h v1 t.1 a1)) (as_cons h1 as_nil)
  cases na <;> exact this
theorem ej_d2 {G : SF} {f : α → β → N γ} (hG : D2 G f) (h1 : VJ A sv fa na) (h2 : VJ A sv fb nb) : EJ A sv (sCall (callF 2 G) (sCons fa (sCons fb sNil))) (na.bind fun a => nb.bind fun b => noE (f a b)) := by
  have := ej_call (G := callF 2 G) (op := fun t : α × β × Unit => noE (f t.1 t.2.1)) (fun h vs t r => by
    obtain ⟨v1, r1, rfl, a1, v2, r2, rfl, a2, q1⟩ := r
    cases q1
    exact sim_noX (hG h v1 v2 _ _ a1 a2)) (as_cons h1 (as_cons h2 as_nil))
  cases na <;> cases nb <;> exact this
theorem ej_d3 {G : SF} {f : α → β → γ → N δ} (hG : D3 G f) (h1 : VJ A sv fa na) (h2 : VJ A sv fb nb) (h3 : VJ A sv fc nc) : EJ A sv (sCall (callF 3 G) (sCons fa (sCons fb (sCons fc sNil)))) (na.bind fun a => nb.bind fun b => nc.bind fun c => noE (f a b c)) := by
  have := ej_call (G := callF 3 G) (op := fun t : α × β × γ × Unit => noE (f t.1 t.2.1 t.2.2.1)) (fun h vs t r => by
    obtain ⟨v1, r1, rfl, a1, v2, r2, rfl, a2, v3, r3, rfl, a3, q1⟩ := r
    cases q1
    exact sim_noX (hG h v1 v2 v3 _ _ _ a1 a2 a3)) (as_cons h1 (as_cons h2 (as_cons h3 as_nil)))
  cases na <;> cases nb <;> cases nc <;> exact this
theorem ej_d4 {G : SF} {f : α → β → γ → δ → N ε} (hG : D4 G f) (h1 : VJ A sv fa na) (h2 : VJ A sv fb nb) (h3 : VJ A sv fc nc) (h4 : VJ A sv fd nd) : EJ A sv (sCall (callF 4 G) (sCons fa (sCons fb (sCons fc (sCons fd sNil))))) (na.bind fun a => nb.bind fun b => nc.bind fun c => nd.bind fun d => noE (f a b c d)) := by
  have := ej_call (G := callF 4 G) (op := fun t : α × β × γ × δ × Unit => noE (f t.1 t.2.1 t.2.2.1 t.2.2.2.1)) (fun h vs t r => by
    obtain ⟨v1, r1, rfl, a1, v2, r2, rfl, a2, v3, r3, rfl, a3, v4, r4, rfl, a4, q1⟩ := r
    cases q1
    exact sim_noX (hG h v1 v2 v3 v4 _ _ _ _ a1 a2 a3 a4)) (as_cons h1 (as_cons h2 (as_cons h3 (as_cons h4 as_nil))))
  cases na <;> cases nb <;> cases nc <;> cases nd <;> exact this
def RR (τ : Type) (R : Hv → List Val → τ → Prop) : Hv → List Val → α × τ → Prop := fun h vs p => ∃ v r, vs = v :: r ∧ red h v p.1 ∧ R h r p.2
theorem as_consR {fs : SA} {τ : Type} {R : Hv → List Val → τ → Prop} {ns : N τ} (h1 : RJ A sv fa na) (h2 : AsJ A sv fs R ns) : AsJ A sv (sCons fa fs) (RR τ R) (na.bind fun a => ns.bind fun t => .ok (a, t)) := fun h k => by
  have h1 := h1 h k
  have h2 := h2 h k
  cases na with
  | bad => trivial
  | exc c v => show sCons fa fs sv h = _; unfold sCons; rw [show fa sv h = .exc c v h from h1]; rfl
  | ok a =>
    obtain ⟨v, e1, a1⟩ := h1
    cases ns with
    | bad => trivial
    | exc c v => show sCons fa fs sv h = _; unfold sCons; rw [e1, bind_ok, show fs sv h = .exc c v h from h2]; rfl
    | ok t =>
      obtain ⟨vs, e2, a2⟩ := h2
      exact ⟨v :: vs, by unfold sCons; rw [e1, bind_ok, e2]; rfl, v, vs, rfl, a1, a2⟩
/-- a built-in of one argument, of two -/
theorem ej_b1 {g : Val → Hv → R Val} {op : α → N β} (hop : ∀ h v a, red h v a → Sim (g v h) (op a) h) (h1 : RJ A sv fa na) : EJ A sv (sCall (c1 g) (sCons fa sNil)) (na.bind op) := by
  have := ej_call (G := c1 g) (op := fun t : α × Unit => op t.1) (fun h vs t r => by
    obtain ⟨v1, r1, rfl, a1, q1⟩ := r
    cases q1
    exact hop h v1 t.1 a1) (as_consR h1 as_nil)
  cases na <;> exact this
theorem ej_b2 {g : Val → Val → Hv → R Val} {op : α → β → N γ} (hop : ∀ h v w a b, red h v a → red h w b → Sim (g v w h) (op a b) h) (h1 : RJ A sv fa na) (h2 : RJ A sv fb nb) : EJ A sv (sCall (c2 g) (sCons fa (sCons fb sNil))) (na.bind fun a => nb.bind fun b => op a b) := by
  have := ej_call (G := c2 g) (op := fun t : α × β × Unit => op t.1 t.2.1) (fun h vs t r => by
    obtain ⟨v1, r1, rfl, a1, v2, r2, rfl, a2, q1⟩ := r
    cases q1
    exact hop h v1 v2 _ _ a1 a2) (as_consR h1 (as_consR h2 as_nil))
  cases na <;> cases nb <;> exact this
/-! tuples of a fixed form -/
theorem ej_p1 (h1 : EJ A sv fa na) : EJ A sv (sTup (sCons fa sNil)) (na.bind fun a => .ok (P1.mk a)) := fun h k => by
  have h1 := h1 h k
  cases na with
  | bad => trivial
  | exc c v => show sTup _ sv h = _; unfold sTup sCons; rw [show fa sv h = .exc c v h from h1]; rfl
  | ok a => show sTup _ sv h = _; unfold sTup sCons; rw [show fa sv h = .ok (enc a) h from h1]; rfl
theorem ej_p2 (h1 : EJ A sv fa na) (h2 : EJ A sv fb nb) : EJ A sv (sTup (sCons fa (sCons fb sNil))) (na.bind fun a => nb.bind fun b => .ok (P2.mk a b)) := fun h k => by
  have h1 := h1 h k
  have h2 := h2 h k
  cases na with
  | bad => trivial
  | exc c v => show sTup _ sv h = _; unfold sTup sCons; rw [show fa sv h = .exc c v h from h1]; rfl
  | ok a =>
    have h1 : fa sv h = .ok (enc a) h := h1
    cases nb with
    | bad => trivial
    | exc c v => show sTup _ sv h = _; unfold sTup sCons; rw [h1, bind_ok, show fb sv h = .exc c v h from h2]; rfl
    | ok b => show sTup _ sv h = _; unfold sTup sCons; rw [h1, bind_ok, show fb sv h = .ok (enc b) h from h2]; rfl
theorem ej_p3 (h1 : EJ A sv fa na) (h2 : EJ A sv fb nb) (h3 : EJ A sv fc nc) : EJ A sv (sTup (sCons fa (sCons fb (sCons fc sNil)))) (na.bind fun a => nb.bind fun b => nc.bind fun c => .ok (P3.mk a b c)) := fun h k => by
  have h1 := h1 h k
  have h2 := h2 h k
  have h3 := h3 h k
  cases na with
  | bad => trivial
  | exc c v => show sTup _ sv h = _; unfold sTup sCons; rw [show fa sv h = .exc c v h from h1]; rfl
  | ok a =>
    have h1 : fa sv h = .ok (enc a) h := h1
    cases nb with
    | bad => trivial
    | exc c v => show sTup _ sv h = _; unfold sTup sCons; rw [h1, bind_ok, show fb sv h = .exc c v h from h2]; rfl
    | ok b =>
      have h2 : fb sv h = .ok (enc b) h := h2
      cases nc with
      | bad => trivial
      | exc c v => show sTup _ sv h = _; unfold sTup sCons; rw [h1, bind_ok, h2, bind_ok, show fc sv h = .exc c v h from h3]; rfl
      | ok c => show sTup _ sv h = _; unfold sTup sCons; rw [h1, bind_ok, h2, bind_ok, show fc sv h = .ok (enc c) h from h3]; rfl
theorem ej_p4 (h1 : EJ A sv fa na) (h2 : EJ A sv fb nb) (h3 : EJ A sv fc nc) (h4 : EJ A sv fd nd) : EJ A sv (sTup (sCons fa (sCons fb (sCons fc (sCons fd sNil))))) (na.bind fun a => nb.bind fun b => nc.bind fun c => nd.bind fun d => .ok (P4.mk a b c d)) := fun h k => by
  have h1 := h1 h k
  have h2 := h2 h k
  have h3 := h3 h k
  have h4 := h4 h k
  cases na with
  | bad => trivial
  | exc c v => show sTup _ sv h = _; unfold sTup sCons; rw [show fa sv h = .exc c v h from h1]; rfl
  | ok a =>
    have h1 : fa sv h = .ok (enc a) h := h1
    cases nb with
    | bad => trivial
    | exc c v => show sTup _ sv h = _; unfold sTup sCons; rw [h1, bind_ok, show fb sv h = .exc c v h from h2]; rfl
    | ok b =>
      have h2 : fb sv h = .ok (enc b) h := h2
      cases nc with
      | bad => trivial
      | exc c v => show sTup _ sv h = _; unfold sTup sCons; rw [h1, bind_ok, h2, bind_ok, show fc sv h = .exc c v h from h3]; rfl
      | ok c =>
        have h3 : fc sv h = .ok (enc c) h := h3
        cases nd with
        | bad => trivial
        | exc c v => show sTup _ sv h = _; unfold sTup sCons; rw [h1, bind_ok, h2, bind_ok, h3, bind_ok, show fd sv h = .exc c v h from h4]; rfl
        | ok c => show sTup _ sv h = _; unfold sTup sCons; rw [h1, bind_ok, h2, bind_ok, h3, bind_ok, show fd sv h = .ok (enc c) h from h4]; rfl
end
end Nx

set_option Elab.async false
set_option linter.all false
set_option maxRecDepth 100000
set_option maxHeartbeats 2000000
/-! NxOps: operators by types -/
namespace Nx
open Sx
open Enc (enc arg red)
section
variable {α β γ δ : Type} [Enc α] [Enc β] [Enc γ] [Enc δ] {h : Hv} {v w : Val}
/-! ints -/
def mulI (a b : Int) : N Int := .chk ((-18446744073709551616 < b ∧ b < 18446744073709551616) ∨ (-18446744073709551616 < a ∧ a < 18446744073709551616)) (.ok (a * b))
def divI (a b : Int) : N Int := .chk (0 < b ∧ b < 1000000000000) (.ok (a / b))
def modI (a b : Int) : N Int := .chk (0 < b) (.ok (a % b))
def shlI (a b : Int) : N Int := .chk (0 ≤ b ∧ b ≤ 1000000 ∧ a.natAbs < 18446744073709551616) (.ok (a * 2 ^ b.toNat))
def shrI (a b : Int) : N Int := .chk (0 ≤ b) (.ok (a / 2 ^ b.toNat))
theorem sim_chk {r s : R Val} {n : N α} {c : Prop} [Decidable c] (e : r = if c then s else .bad) (k : c → Sim s n h) : Sim r (.chk c n) h := by
  subst e
  unfold N.chk
  split
  · exact k ‹_›
  · trivial
theorem o_addI : ∀ h v w (a b : Int), red h v a → red h w b → Sim (gAddX v w h) (.ok (a + b)) h := fun h v w a b e1 e2 => by cases e1; cases e2; rfl
theorem o_iaddI : ∀ h v w (a b : Int), red h v a → red h w b → Sim (gIAdd v w h) (.ok (a + b)) h := fun h v w a b e1 e2 => by cases e1; cases e2; rfl
theorem o_subI : ∀ h v w (a b : Int), red h v a → red h w b → Sim (gSub v w h) (.ok (a - b)) h := fun h v w a b e1 e2 => by cases e1; cases e2; rfl
theorem o_mulI : ∀ h v w (a b : Int), red h v a → red h w b → Sim (gMulX v w h) (mulI a b) h := fun h v w a b e1 e2 => by cases e1; cases e2; exact sim_chk rfl fun _ => rfl
theorem o_divI : ∀ h v w (a b : Int), red h v a → red h w b → Sim (gDiv v w h) (divI a b) h := fun h v w a b e1 e2 => by cases e1; cases e2; exact sim_chk rfl fun _ => rfl
theorem o_modI : ∀ h v w (a b : Int), red h v a → red h w b → Sim (gMod v w h) (modI a b) h := fun h v w a b e1 e2 => by cases e1; cases e2; exact sim_chk rfl fun _ => rfl
theorem o_shlI : ∀ h v w (a b : Int), red h v a → red h w b → Sim (gShl v w h) (shlI a b) h := fun h v w a b e1 e2 => by cases e1; cases e2; exact sim_chk rfl fun _ => rfl
theorem o_shrI : ∀ h v w (a b : Int), red h v a → red h w b → Sim (gShr v w h) (shrI a b) h := fun h v w a b e1 e2 => by cases e1; cases e2; exact sim_chk rfl fun _ => rfl
theorem o_andI : ∀ h v w (a b : Int), red h v a → red h w b → Sim (gAnd v w h) (.ok (PySem.Builtin.bitAnd a b)) h := fun h v w a b e1 e2 => by cases e1; cases e2; rfl
theorem o_orI : ∀ h v w (a b : Int), red h v a → red h w b → Sim (gOr v w h) (.ok (PySem.Builtin.bitOr a b)) h := fun h v w a b e1 e2 => by cases e1; cases e2; rfl
theorem o_xorI : ∀ h v w (a b : Int), red h v a → red h w b → Sim (gXor v w h) (.ok (PySem.Builtin.bitXor a b)) h := fun h v w a b e1 e2 => by cases e1; cases e2; rfl
theorem o_ltI : ∀ h v w (a b : Int), red h v a → red h w b → Sim (gLt v w h) (.ok (decide (a < b))) h := fun h v w a b e1 e2 => by cases e1; cases e2; rfl
theorem o_leI : ∀ h v w (a b : Int), red h v a → red h w b → Sim (gLe v w h) (.ok (decide (a ≤ b))) h := fun h v w a b e1 e2 => by cases e1; cases e2; rfl
theorem o_gtI : ∀ h v w (a b : Int), red h v a → red h w b → Sim (gGt v w h) (.ok (decide (b < a))) h := fun h v w a b e1 e2 => by cases e1; cases e2; rfl
theorem o_geI : ∀ h v w (a b : Int), red h v a → red h w b → Sim (gGe v w h) (.ok (decide (b ≤ a))) h := fun h v w a b e1 e2 => by cases e1; cases e2; rfl
theorem o_eqI : ∀ h v w (a b : Int), red h v a → red h w b → Sim (gEq v w h) (.ok (decide (a = b))) h := fun h v w a b e1 e2 => by cases e1; cases e2; rfl
theorem o_neI : ∀ h v w (a b : Int), red h v a → red h w b → Sim (gNe v w h) (.ok (!decide (a = b))) h := fun h v w a b e1 e2 => by cases e1; cases e2; rfl
theorem o_eqB : ∀ h v w (a b : Bool), red h v a → red h w b → Sim (gEq v w h) (.ok (decide (a = b))) h := fun h v w a b e1 e2 => by cases e1; cases e2; rfl
theorem o_neB : ∀ h v w (a b : Bool), red h v a → red h w b → Sim (gNe v w h) (.ok (!decide (a = b))) h := fun h v w a b e1 e2 => by cases e1; cases e2; rfl
theorem o_eqS : ∀ h v w (a b : List Nat), red h v a → red h w b → Sim (gEq v w h) (.ok (decide (a = b))) h := fun h v w a b e1 e2 => by cases e1; cases e2; rfl
theorem o_neS : ∀ h v w (a b : List Nat), red h v a → red h w b → Sim (gNe v w h) (.ok (!decide (a = b))) h := fun h v w a b e1 e2 => by cases e1; cases e2; rfl
theorem o_negI : ∀ h v (a : Int), red h v a → Sim (gNeg v h) (.ok (-a)) h := fun h v a e1 => by cases e1; rfl
theorem b_abs : ∀ h v (a : Int), red h v a → Sim ((fun v h => match v with | .int i => .ok (.int (if i < 0 then -i else i)) h | _ => .bad : Val → Hv → R Val) v h) (.ok (if a < 0 then -a else a)) h := fun h v a e1 => by cases e1; rfl
theorem o_maxI : ∀ h v w (a b : Int), red h v a → red h w b → Sim (gI (fun i j => .int (if j > i then j else i)) v w h) (.ok (if b > a then b else a)) h := fun h v w a b e1 e2 => by cases e1; cases e2; rfl
theorem o_minI : ∀ h v w (a b : Int), red h v a → red h w b → Sim (gI (fun i j => .int (if j < i then j else i)) v w h) (.ok (if b < a then b else a)) h := fun h v w a b e1 e2 => by cases e1; cases e2; rfl
/-! None -/
class NN (α : Type) [Enc α] : Prop where
  nn : ∀ a : α, (enc a : Val).isNon = false
instance : NN Int := ⟨fun _ => rfl⟩
instance : NN Bool := ⟨fun _ => rfl⟩
instance : NN (List Nat) := ⟨fun _ => rfl⟩
instance : NN (List α) := ⟨fun _ => rfl⟩
instance : NN (Tu α) := ⟨fun _ => rfl⟩
instance : NN (P2 α β) := ⟨fun _ => rfl⟩
instance : NN (P3 α β γ) := ⟨fun _ => rfl⟩
instance : NN (P4 α β γ δ) := ⟨fun _ => rfl⟩
theorem o_isN [NN α] : ∀ h v w (a : Option α) (b : Unit), red h v a → red h w b → Sim (gIsN v w h) (.ok a.isNone) h := fun h v w a b e1 e2 => by
  cases e1; cases e2
  cases a with
  | none => rfl
  | some a => show R.ok (Val.bl (enc a : Val).isNon) h = _; rw [NN.nn]; rfl
theorem o_notN [NN α] : ∀ h v w (a : Option α) (b : Unit), red h v a → red h w b → Sim (gNotN v w h) (.ok a.isSome) h := fun h v w a b e1 e2 => by
  cases e1; cases e2
  cases a with
  | none => rfl
  | some a => show R.ok (Val.bl (!(enc a : Val).isNon)) h = _; rw [NN.nn]; rfl
def D.isN : D → Bool
  | .non => true
  | _ => false
theorem o_isND : ∀ h v w (a : D) (b : Unit), red h v a → red h w b → Sim (gIsN v w h) (.ok a.isN) h := fun h v w a b e1 e2 => by cases e1; cases e2; cases a <;> rfl
theorem o_notND : ∀ h v w (a : D) (b : Unit), red h v a → red h w b → Sim (gNotN v w h) (.ok (!a.isN)) h := fun h v w a b e1 e2 => by cases e1; cases e2; cases a <;> rfl
/-! data: casts, comparison -/
def D.asI : D → N Int
  | .int i => .ok i
  | _ => .bad
def D.asB : D → N Bool
  | .bl i => .ok i
  | _ => .bad
def D.asS : D → N (List Nat)
  | .str i => .ok i
  | _ => .bad
def D.asT : D → N (Tu D)
  | .tup i => .ok ⟨i⟩
  | _ => .bad
def D.asL : D → N (List D)
  | .fl i => .ok i
  | _ => .bad
variable {A : As} {sv : Env} {fa fb fc fe : SE} {na : N α} {nb : N β} {nd : N D}
theorem ej_asI (ha : EJ A sv fa nd) : EJ A sv fa (nd.bind D.asI) := ej_as (fun a b e => by cases a <;> cases e <;> rfl) (fun a c v e => by cases a <;> cases e) ha
theorem ej_asB (ha : EJ A sv fa nd) : EJ A sv fa (nd.bind D.asB) := ej_as (fun a b e => by cases a <;> cases e <;> rfl) (fun a c v e => by cases a <;> cases e) ha
theorem ej_asS (ha : EJ A sv fa nd) : EJ A sv fa (nd.bind D.asS) := ej_as (fun a b e => by cases a <;> cases e <;> rfl) (fun a c v e => by cases a <;> cases e) ha
theorem ej_asT (ha : EJ A sv fa nd) : EJ A sv fa (nd.bind D.asT) := ej_as (fun a b e => by
  cases a with
  | tup ds => cases e; show Val.tup (ds.map D.enc) = Val.tup (D.encs ds); rw [D.encs_map]
  | _ => cases e) (fun a c v e => by cases a <;> cases e) ha
theorem ej_asL (ha : EJ A sv fa nd) : EJ A sv fa (nd.bind D.asL) := ej_as (fun a b e => by
  cases a with
  | fl es => cases e; exact congrArg Val.fl (D.encs_map _).symm
  | _ => cases e) (fun a c v e => by cases a <;> cases e) ha
/-- typed things as data -/
class ToD (α : Type) [Enc α] where
  toD : α → D
  eq : ∀ a, D.enc (toD a) = enc a
open ToD (toD)
instance : ToD Int := ⟨.int, fun _ => rfl⟩
instance : ToD Bool := ⟨.bl, fun _ => rfl⟩
instance : ToD Unit := ⟨fun _ => .non, fun _ => rfl⟩
instance : ToD (List Nat) := ⟨.str, fun _ => rfl⟩
instance : ToD D := ⟨fun d => d, fun _ => rfl⟩
theorem encs_toD [ToD α] (xs : List α) : D.encs (xs.map toD) = xs.map enc := by rw [D.encs_map, List.map_map]; exact List.map_congr_left fun a _ => ToD.eq a
instance [ToD α] : ToD (List α) := ⟨fun xs => .fl (xs.map toD), fun xs => by show Val.fl (D.encs (xs.map toD)) = _; rw [encs_toD]; rfl⟩
instance [ToD α] : ToD (Tu α) := ⟨fun xs => .tup (xs.l.map toD), fun xs => by show Val.tup (D.encs (xs.l.map toD)) = _; rw [encs_toD]; rfl⟩
instance [ToD α] : ToD (P1 α) := ⟨fun p => .tup [toD p.a], fun p => by show Val.tup [D.enc (toD p.a)] = _; rw [ToD.eq]; rfl⟩
instance [ToD α] [ToD β] : ToD (P2 α β) := ⟨fun p => .tup [toD p.a, toD p.b], fun p => by show Val.tup [D.enc (toD p.a), D.enc (toD p.b)] = _; rw [ToD.eq, ToD.eq]; rfl⟩
instance [ToD α] [ToD β] [ToD γ] : ToD (P3 α β γ) := ⟨fun p => .tup [toD p.a, toD p.b, toD p.c], fun p => by show Val.tup [D.enc (toD p.a), D.enc (toD p.b), D.enc (toD p.c)] = _; rw [ToD.eq, ToD.eq, ToD.eq]; rfl⟩
instance [ToD α] [ToD β] [ToD γ] [ToD δ] : ToD (P4 α β γ δ) := ⟨fun p => .tup [toD p.a, toD p.b, toD p.c, toD p.d], fun p => by show Val.tup [D.enc (toD p.a), D.enc (toD p.b), D.enc (toD p.c), D.enc (toD p.d)] = _; rw [ToD.eq, ToD.eq, ToD.eq, ToD.eq]; rfl⟩
instance [ToD α] : ToD (Option α) := ⟨fun | none => .non | some a => toD a, fun | none => rfl | some a => ToD.eq a⟩
theorem ej_toD [ToD α] (ha : EJ A sv fa na) : EJ A sv fa (na.bind fun a => .ok (toD a)) := ej_as (fun a b e => by cases e; exact ToD.eq a) (fun a c v e => by cases e) ha
theorem ej_some (ha : EJ A sv fa na) : EJ A sv fa (na.bind fun a => .ok (some a)) := ej_as (fun a b e => by cases e; rfl) (fun a c v e => by cases e) ha
def unO {α : Type} : Option α → N α
  | some a => .ok a
  | none => .bad
theorem ej_unO {n : N (Option α)} (ha : EJ A sv fa n) : EJ A sv fa (n.bind unO) := ej_as (fun a b e => by cases a <;> cases e; rfl) (fun a c v e => by cases a <;> cases e) ha
/-- == of data, by the values -/
def D.cOk (d : D) : Bool := Val.cmpOk d.enc
def gbN (r : R Val) : N Bool := match r with
  | .ok (.bl k) _ => .ok k
  | _ => .bad
def eqD (a b : D) : N Bool := gbN (gEq a.enc b.enc [])
theorem gEq_h (x y : Val) (h : Hv) : gEq x y h = match gEq x y [] with
  | .ok v _ => .ok v h
  | _ => .bad := by
  unfold gEq
  split
  · rfl
  · rfl
  · rfl
  · split <;> rfl
theorem gEq_b (x y : Val) (h : Hv) : (∃ k, gEq x y h = .ok (.bl k) h) ∨ gEq x y h = .bad := by
  unfold gEq
  split
  · exact .inl ⟨_, rfl⟩
  · exact .inl ⟨_, rfl⟩
  · exact .inl ⟨_, rfl⟩
  · split
    · exact .inl ⟨_, rfl⟩
    · exact .inr rfl
theorem gNe_eq (x y : Val) (h : Hv) : gNe x y h = match gEq x y h with
  | .ok (.bl k) h => .ok (.bl (!k)) h
  | _ => .bad := by
  unfold gNe gEq
  split
  · rfl
  · rfl
  · rfl
  · split <;> rfl
theorem o_eqD : ∀ h v w (a b : D), red h v a → red h w b → Sim (gEq v w h) (eqD a b) h := fun h v w a b e1 e2 => by
  cases e1; cases e2
  show Sim (gEq a.enc b.enc h) (eqD a b) h
  rw [gEq_h]
  unfold eqD
  rcases gEq_b a.enc b.enc [] with ⟨k, e⟩ | e
  · rw [e]; rfl
  · rw [e]; trivial
theorem o_neD : ∀ h v w (a b : D), red h v a → red h w b → Sim (gNe v w h) ((eqD a b).bind fun k => .ok (!k)) h := fun h v w a b e1 e2 => by
  cases e1; cases e2
  show Sim (gNe a.enc b.enc h) _ h
  rw [gNe_eq, gEq_h]
  unfold eqD
  rcases gEq_b a.enc b.enc [] with ⟨k, e⟩ | e
  · rw [e]; rfl
  · rw [e]; trivial
@[simp] theorem eqD_ss {a b : List Nat} : eqD (.str a) (.str b) = .ok (decide (a = b)) := rfl
@[simp] theorem eqD_ii {a b : Int} : eqD (.int a) (.int b) = .ok (decide (a = b)) := rfl
/-! truth -/
theorem t_B : ∀ h v (a b : Bool), red h v a → N.ok a = .ok b → truB v h = some b := fun h v a b e1 e => by cases e1; cases e; rfl
theorem t_I : ∀ h v (a : Int) b, red h v a → N.ok (!decide (a = 0)) = .ok b → truB v h = some b := fun h v a b e1 e => by cases e1; cases e; rfl
def truS (a : List Nat) : N Bool := .chk (a.length ≤ 16777216) (.ok (!a.isEmpty))
theorem t_S : ∀ h v (a : List Nat) b, red h v a → truS a = .ok b → truB v h = some b := fun h v a b e1 e => by
  cases e1
  unfold truS N.chk at e
  show (if a.length ≤ 16777216 then some (!a.isEmpty) else none) = _
  split at e
  · cases e; rw [if_pos ‹_›]
  · cases e
theorem truS_x : ∀ a c v, truS a ≠ .exc c v := fun a c v e => by unfold truS N.chk at e; split at e <;> cases e
theorem ok_x {f : α → β} : ∀ a c v, N.ok (f a) ≠ .exc c v := fun a c v e => by cases e
theorem IsL.cases {h : Hv} {v : Val} {vs : List Val} (e : IsL h v vs) : v = .fl vs ∨ v = .kl vs ∨ ∃ i, v = .ref i ∧ h[i]? = some (.lst vs) := by
  obtain ⟨e1, e2⟩ := e
  cases v with
  | fl us => cases e1; exact .inl rfl
  | kl us => cases e1; exact .inr (.inl rfl)
  | ref i =>
    refine .inr (.inr ⟨i, rfl, ?_⟩)
    rw [items_ref] at e1
    cases hc : h[i]? with
    | none => rw [hc] at e1; cases e1
    | some c => cases c <;> rw [hc] at e1 <;> cases e1 <;> rfl
  | _ => cases e2
theorem t_L : ∀ h v (a : List α) b, red h v a → N.ok (!a.isEmpty) = .ok b → truB v h = some b := fun h v a b e1 e => by
  cases e
  rcases IsL.cases e1 with rfl | rfl | ⟨i, rfl, hi⟩
  · cases a <;> rfl
  · cases a <;> rfl
  · show (match h[i]? with | some (.lst vs) => some (!vs.isEmpty) | _ => none) = _
    rw [hi]; cases a <;> rfl
theorem t_T : ∀ h v (a : Tu α) b, red h v a → N.ok (!a.l.isEmpty) = .ok b → truB v h = some b := fun h v a b e1 e => by
  cases e; cases e1
  obtain ⟨l⟩ := a
  cases l <;> rfl
def truD : D → N Bool
  | .non => .ok false
  | .bl b => .ok b
  | .int i => .ok (!decide (i = 0))
  | .str x => truS x
  | .tup ds => .ok (!ds.isEmpty)
  | .fl ds => .ok (!ds.isEmpty)
theorem truD_x : ∀ a c v, truD a ≠ .exc c v := fun a c v e => by cases a <;> first | cases e | exact truS_x _ _ _ e
theorem t_D : ∀ h v (a : D) b, red h v a → truD a = .ok b → truB v h = some b := fun h v a b e1 e => by
  cases e1
  cases a with
  | str x => exact t_S h _ x b rfl e
  | tup ds => cases e; cases ds <;> rfl
  | fl ds => cases e; cases ds <;> rfl
  | _ => cases e; rfl
/-! lists -/
def ixN {α : Type} (xs : List α) (i : Int) : N α := .opt (ixv xs i)
theorem ixv_map {α β : Type} (f : α → β) (xs : List α) (i : Int) : ixv (xs.map f) i = (ixv xs i).map f := by
  unfold ixv
  rw [List.length_map]
  split
  · rw [List.getElem?_map]
  · split
    · rw [List.getElem?_map]
    · rfl
theorem gIxD_isL {h : Hv} {v : Val} {vs : List Val} {i : Int} (e : IsL h v vs) : gIxD v (.int i) h = match ixv vs i with
    | some v => .ok v h
    | none => .bad := by
  rcases IsL.cases e with rfl | rfl | ⟨j, rfl, hj⟩
  · rfl
  · rfl
  · unfold gIxD
    simp only [hj]
    unfold gIx
    simp only [e.1]
    try rfl
theorem o_ixL : ∀ h v w (a : List α) (b : Int), red h v a → red h w b → Sim (gIxD v w h) (ixN a b) h := fun h v w a b e1 e2 => by
  cases e2
  show Sim (gIxD v (.int b) h) _ h
  rw [gIxD_isL e1, ixv_map]
  unfold ixN
  cases ixv a b <;> first | rfl | trivial
theorem o_ixT : ∀ h v w (a : Tu α) (b : Int), red h v a → red h w b → Sim (gIxD v w h) (ixN a.l b) h := fun h v w a b e1 e2 => by
  cases e1; cases e2
  show Sim (match ixv (a.l.map enc) b with | some v => R.ok v h | none => .bad) _ h
  rw [ixv_map]
  unfold ixN
  cases ixv a.l b <;> first | rfl | trivial
def ixS (x : List Nat) (i : Int) : N (List Nat) := .chk (x.length ≤ 16777216) ((ixN x i).bind fun c => .ok [c])
theorem o_ixS : ∀ h v w (a : List Nat) (b : Int), red h v a → red h w b → Sim (gIxD v w h) (ixS a b) h := fun h v w a b e1 e2 => by
  cases e1; cases e2
  show Sim (if a.length ≤ 16777216 then (match ixv a b with | some c => R.ok (Val.str [c]) h | none => .bad) else .bad) _ h
  unfold ixS N.chk ixN
  split
  · cases ixv a b <;> first | rfl | trivial
  · trivial
def D.ix (d : D) (i : Int) : N D := match d with
  | .tup ds => ixN ds i
  | .fl ds => ixN ds i
  | .str x => (ixS x i).bind fun c => .ok (.str c)
  | _ => .bad
theorem o_ixD : ∀ h v w (a : D) (b : Int), red h v a → red h w b → Sim (gIxD v w h) (a.ix b) h := fun h v w a b e1 e2 => by
  cases e1; cases e2
  cases a with
  | tup ds =>
    show Sim (match ixv (D.encs ds) b with | some v => R.ok v h | none => .bad) (ixN ds b) h
    rw [D.encs_map, ixv_map]
    unfold ixN
    cases ixv ds b <;> first | rfl | trivial
  | fl ds =>
    show Sim (match ixv (D.encs ds) b with | some v => R.ok v h | none => .bad) (ixN ds b) h
    rw [D.encs_map, ixv_map]
    unfold ixN
    cases ixv ds b <;> first | rfl | trivial
  | str x =>
    show Sim (if x.length ≤ 16777216 then (match ixv x b with | some c => R.ok (Val.str [c]) h | none => .bad) else .bad) ((ixS x b).bind fun c => .ok (D.str c)) h
    unfold ixS N.chk ixN
    split
    · cases ixv x b <;> first | rfl | trivial
    · trivial
  | _ => trivial
/-! parts of a tuple of a fixed form -/
theorem ej_at {g : α → β} {k : Int} (hop : ∀ h a, gIxD (enc a) (.int k) h = .ok (enc (g a)) h) (ha : EJ A sv fa na) : EJ A sv (sBin gIxD fa (sC (.int k))) (na.bind fun a => .ok (g a)) := by
  have := ej_binE (g := gIxD) (op := fun (a : α) (b : Int) => if b = k then N.ok (g a) else .bad) (fun h a b => by
    by_cases e : b = k
    · subst e; simp only [if_true]; exact hop h a
    · simp only [if_neg e]; trivial) ha (ej_c (A := A) (sv := sv) (v := .int k) (a := (k : Int)) rfl)
  cases na with
  | ok a => simpa using this
  | exc c v => exact this
  | bad => exact this
theorem ej_p1_0 {n : N (P1 α)} (ha : EJ A sv fa n) : EJ A sv (sBin gIxD fa (sC (.int 0))) (n.bind fun p => .ok p.a) := ej_at (fun _ _ => rfl) ha
theorem ej_p2_0 {n : N (P2 α β)} (ha : EJ A sv fa n) : EJ A sv (sBin gIxD fa (sC (.int 0))) (n.bind fun p => .ok p.a) := ej_at (fun _ _ => rfl) ha
theorem ej_p2_1 {n : N (P2 α β)} (ha : EJ A sv fa n) : EJ A sv (sBin gIxD fa (sC (.int 1))) (n.bind fun p => .ok p.b) := ej_at (fun _ _ => rfl) ha
theorem ej_p3_0 {n : N (P3 α β γ)} (ha : EJ A sv fa n) : EJ A sv (sBin gIxD fa (sC (.int 0))) (n.bind fun p => .ok p.a) := ej_at (fun _ _ => rfl) ha
theorem ej_p3_1 {n : N (P3 α β γ)} (ha : EJ A sv fa n) : EJ A sv (sBin gIxD fa (sC (.int 1))) (n.bind fun p => .ok p.b) := ej_at (fun _ _ => rfl) ha
theorem ej_p3_2 {n : N (P3 α β γ)} (ha : EJ A sv fa n) : EJ A sv (sBin gIxD fa (sC (.int 2))) (n.bind fun p => .ok p.c) := ej_at (fun _ _ => rfl) ha
theorem ej_p4_0 {n : N (P4 α β γ δ)} (ha : EJ A sv fa n) : EJ A sv (sBin gIxD fa (sC (.int 0))) (n.bind fun p => .ok p.a) := ej_at (fun _ _ => rfl) ha
theorem ej_p4_1 {n : N (P4 α β γ δ)} (ha : EJ A sv fa n) : EJ A sv (sBin gIxD fa (sC (.int 1))) (n.bind fun p => .ok p.b) := ej_at (fun _ _ => rfl) ha
theorem ej_p4_2 {n : N (P4 α β γ δ)} (ha : EJ A sv fa n) : EJ A sv (sBin gIxD fa (sC (.int 2))) (n.bind fun p => .ok p.c) := ej_at (fun _ _ => rfl) ha
theorem ej_p4_3 {n : N (P4 α β γ δ)} (ha : EJ A sv fa n) : EJ A sv (sBin gIxD fa (sC (.int 3))) (n.bind fun p => .ok p.d) := ej_at (fun _ _ => rfl) ha
/-! len -/
def lenN {α : Type} (xs : List α) : N Int := .ok xs.length
theorem b_lenL : ∀ h v (a : List α), red h v a → Sim (gLen v h) (.ok (a.length : Int)) h := fun h v a e1 => by
  have e1 : IsL h v (a.map enc) := e1
  have g : gItems (fun vs h => .ok (.int vs.length) h) v h = .ok (.int (a.map (enc : α → Val)).length) h := by unfold gItems; rw [e1.1]
  have g2 : gLen v h = gItems (fun vs h => .ok (.int vs.length) h) v h := by rcases IsL.cases e1 with rfl | rfl | ⟨i, rfl, hi⟩ <;> rfl
  rw [g2, g, List.length_map]
  rfl
theorem b_lenT : ∀ h v (a : Tu α), red h v a → Sim (gLen v h) (.ok (a.l.length : Int)) h := fun h v a e1 => by
  cases e1
  show R.ok (Val.int (a.l.map enc).length) h = _
  rw [List.length_map]; rfl
def lenS (x : List Nat) : N Int := .chk (x.length ≤ 16777216) (.ok (x.length : Int))
theorem b_lenS : ∀ h v (a : List Nat), red h v a → Sim (gLen v h) (lenS a) h := fun h v a e1 => by
  cases e1
  exact sim_chk rfl fun _ => rfl
def D.len : D → N Int
  | .tup ds => .ok ds.length
  | .fl ds => .ok ds.length
  | .str x => lenS x
  | _ => .bad
theorem b_lenD : ∀ h v (a : D), red h v a → Sim (gLen v h) a.len h := fun h v a e1 => by
  cases e1
  cases a with
  | tup ds => show R.ok (Val.int (D.encs ds).length) h = _; rw [D.encs_map, List.length_map]; rfl
  | fl ds => show R.ok (Val.int (D.encs ds).length) h = _; rw [D.encs_map, List.length_map]; rfl
  | str x => exact b_lenS h _ x rfl
  | _ => trivial
/-! x in xs -/
theorem any_mem {α : Type} [DecidableEq α] {f : α → Val} {x : α} (hf : ∀ y, Val.eq (f y) (f x) = decide (y = x)) : ∀ xs : List α, ((xs.map f).any fun u => Val.eq u (f x)) = decide (x ∈ xs)
  | [] => by simp
  | y :: ys => by
    rw [List.map_cons, List.any_cons, hf, any_mem hf ys]
    by_cases e : y = x
    · subst e; simp
    · have e2 : ¬ x = y := fun z => e z.symm
      simp [e, e2]
def memB {α : Type} [DecidableEq α] (a : α) (xs : List α) : Bool := decide (a ∈ xs)
@[simp] theorem memB_eq {α : Type} [DecidableEq α] {a : α} {xs : List α} : memB a xs = decide (a ∈ xs) := rfl
/-- things that in may look for -/
class Flat (α : Type) [Enc α] [DecidableEq α] : Prop where
  flat : ∀ a : α, (enc a : Val).flat = true
  eq : ∀ a b : α, Val.eq (enc a) (enc b) = decide (a = b)
instance : Flat Int := ⟨fun _ => rfl, fun a b => by show (a == b) = _; by_cases e : a = b <;> simp [e]⟩
instance : Flat (List Nat) := ⟨fun _ => rfl, fun a b => by show (a == b) = _; by_cases e : a = b <;> simp [e]⟩
instance : Flat Bool := ⟨fun _ => rfl, fun a b => by show (a == b) = _; by_cases e : a = b <;> simp [e]⟩
theorem all_flat [DecidableEq α] [Flat α] (xs : List α) : (xs.map enc).all Val.flat = true := by
  rw [List.all_map, List.all_eq_true]
  exact fun a _ => Flat.flat a
theorem gInT_isL {neg : Bool} {h : Hv} {v w : Val} {vs : List Val} (e : IsL h w vs) : gInX neg v w h = gInB neg v w h := by
  rcases IsL.cases e with rfl | rfl | ⟨j, rfl, hj⟩ <;> rfl
theorem o_inL [DecidableEq α] [Flat α] : ∀ h v w (a : α) (b : List α), v = enc a → red h w b → Sim (gInT v w h) (.ok (memB a b)) h := fun h v w a b e1 e2 => by
  have e2 : IsL h w (b.map enc) := e2
  cases e1
  show gInX false _ w h = _
  rw [gInT_isL e2]
  unfold gInB
  rw [e2.1]
  simp only
  rw [if_pos ⟨Flat.flat a, all_flat b⟩, any_mem (fun y => Flat.eq y a) b]
  rfl
theorem o_notInL [DecidableEq α] [Flat α] : ∀ h v w (a : α) (b : List α), v = enc a → red h w b → Sim (gNotInT v w h) (.ok (!memB a b)) h := fun h v w a b e1 e2 => by
  have e2 : IsL h w (b.map enc) := e2
  cases e1
  show gInX true _ w h = _
  rw [gInT_isL e2]
  unfold gInB
  rw [e2.1]
  simp only
  rw [if_pos ⟨Flat.flat a, all_flat b⟩, any_mem (fun y => Flat.eq y a) b]
  rfl
theorem o_inT [DecidableEq α] [Flat α] : ∀ h v w (a : α) (b : Tu α), v = enc a → red h w b → Sim (gInT v w h) (.ok (memB a b.l)) h := fun h v w a b e1 e2 => by
  cases e1; cases e2
  show gInB false _ (Val.tup (b.l.map enc)) h = _
  unfold gInB
  show (if _ ∧ (b.l.map enc).all Val.flat = true then _ else _) = _
  rw [if_pos ⟨Flat.flat a, all_flat b.l⟩]
  show R.ok (Val.bl ((b.l.map enc).any fun u => Val.eq u (enc a))) h = _
  rw [any_mem (fun y => Flat.eq y a) b.l]
  rfl
theorem o_notInT [DecidableEq α] [Flat α] : ∀ h v w (a : α) (b : Tu α), v = enc a → red h w b → Sim (gNotInT v w h) (.ok (!memB a b.l)) h := fun h v w a b e1 e2 => by
  cases e1; cases e2
  show gInB true _ (Val.tup (b.l.map enc)) h = _
  unfold gInB
  show (if _ ∧ (b.l.map enc).all Val.flat = true then _ else _) = _
  rw [if_pos ⟨Flat.flat a, all_flat b.l⟩]
  show R.ok (Val.bl (!((b.l.map enc).any fun u => Val.eq u (enc a)))) h = _
  rw [any_mem (fun y => Flat.eq y a) b.l]
  rfl
/-! sums, slices, conversions -/
theorem o_addL : ∀ h (a b : List α), Sim (gAddX (enc a) (enc b) h) (szN (a ++ b)) h := fun h a b => by
  show Sim (if (a.map enc).length + (b.map enc).length ≤ 16777216 then R.ok (Val.fl (a.map enc ++ b.map enc)) h else .bad) _ h
  unfold szN
  refine sim_chk (s := R.ok (Val.fl (a.map enc ++ b.map enc)) h) (by simp only [List.length_map, List.length_append]) fun _ => ?_
  rw [← List.map_append]; rfl
theorem o_addS : ∀ h (a b : List Nat), Sim (gAddX (enc a) (enc b) h) (szN (a ++ b)) h := fun h a b => by
  show Sim (if a.length + b.length ≤ 16777216 then R.ok (Val.str (a ++ b)) h else .bad) _ h
  unfold szN
  exact sim_chk (s := R.ok (Val.str (a ++ b)) h) (by simp only [List.length_append]) fun _ => rfl
theorem o_iaddS : ∀ h v w (a b : List Nat), red h v a → red h w b → Sim (gIAdd v w h) (szN (a ++ b)) h := fun h v w a b e1 e2 => by
  cases e1; cases e2
  show Sim (if a.length + b.length ≤ 16777216 then R.ok (Val.str (a ++ b)) h else .bad) _ h
  unfold szN
  exact sim_chk (s := R.ok (Val.str (a ++ b)) h) (by simp only [List.length_append]) fun _ => rfl
def tuN {α : Type} (xs : List α) : N (Tu α) := (szN xs).bind fun xs => .ok ⟨xs⟩
theorem o_addT : ∀ h (a b : Tu α), Sim (gAddX (enc a) (enc b) h) (tuN (a.l ++ b.l)) h := fun h a b => by
  show Sim (if (a.l.map enc).length + (b.l.map enc).length ≤ 16777216 then R.ok (Val.tup (a.l.map enc ++ b.l.map enc)) h else .bad) _ h
  unfold tuN szN N.chk
  simp only [List.length_map, List.length_append]
  split
  · rw [← List.map_append]; rfl
  · trivial
theorem rep_map {α β : Type} (f : α → β) (k : Int) (xs : List α) : repV k (xs.map f) = (repV k xs).map f := by
  unfold repV
  rw [List.map_flatten, List.map_replicate]
def mulL {α : Type} (xs : List α) (k : Int) : N (List α) := .chk (0 ≤ k ∧ k ≤ 1000 ∧ xs.length ≤ 1000) (.ok (repV k xs))
end
open Classical in
theorem o_mulL {α : Type} [Enc α] : ∀ h (a : List α) (b : Int), Sim (gMulX (enc a) (enc b) h) (mulL a b) h := fun h a b => by
  show Sim (if 0 ≤ b ∧ b ≤ 1000 ∧ (a.map enc).length ≤ 1000 then R.ok (Val.fl (repV b (a.map enc))) h else .bad) _ h
  unfold mulL
  refine sim_chk (s := R.ok (Val.fl (repV b (a.map enc))) h) (by simp only [List.length_map]) fun _ => ?_
  rw [rep_map]; rfl
end Nx

set_option Elab.async false
set_option linter.all false
set_option maxRecDepth 100000
set_option maxHeartbeats 2000000
/-! NxStmt: statements -/
namespace Nx
open Sx
open Enc (enc arg red)
open ToD (toD)
/-- what the result of a block is to be -/
structure Mode (δ : Type) where
  res : R Fl → N δ → Prop
  bad : ∀ r, res r .bad
  exc : ∀ c v h, res (.exc c v h) (.exc c v)
def BJ {δ : Type} (m : Mode δ) (b : Bse) (own : List OI) (sv : Env) (f : SS) (n : N δ) : Prop := ∀ h, Holds b own h → m.res (f sv h) n
section
variable {α β γ δ ρ : Type} [Enc α] [Enc β] [Enc ρ] {m : Mode δ} {b : Bse} {own : List OI} {sv sv' : Env} {fa fb fe : SE} {na : N α} {n n1 n2 nr : N δ} {f g rest : SS} {ft : ST} {nt : N Bool}
/-- a value given back -/
def mRet (ρ : Type) [Enc ρ] (b : Bse) : Mode ρ where
  res r n := match n with
    | .ok a => ∃ h, r = .ok (.rt (enc a)) h ∧ Bx b h
    | .exc c v => ∃ h, r = .exc c v h
    | .bad => True
  bad _ := trivial
  exc _ _ _ := ⟨_, rfl⟩
/-- .. or none, at the end -/
def mLax (b : Bse) : Mode Unit where
  res r n := match n with
    | .ok a => ∃ h, (r = .ok (.rt .non) h ∨ ∃ s, r = .ok (.nx s) h) ∧ Bx b h
    | .exc c v => ∃ h, r = .exc c v h
    | .bad => True
  bad _ := trivial
  exc _ _ _ := ⟨_, rfl⟩
abbrev SPr (γ : Type) := γ → Env → List OI → Prop
/-- going on, with the names as they are told -/
def mPart (b : Bse) (sp : SPr γ) : Mode γ where
  res r n := match n with
    | .ok a => ∃ s h os, r = .ok (.nx s) h ∧ sp a s os ∧ Holds b os h
    | .exc c v => ∃ h, r = .exc c v h
    | .bad => True
  bad _ := trivial
  exc _ _ _ := ⟨_, rfl⟩
inductive Ctl (ρ γ : Type) where
  | nx (g : γ) | bk (g : γ) | rt (a : ρ)
/-- a loop's turn -/
def mTurn (ρ : Type) [Enc ρ] (b : Bse) (sp : SPr γ) : Mode (Ctl ρ γ) where
  res r n := match n with
    | .ok (.nx a) => ∃ s h os, (r = .ok (.nx s) h ∨ r = .ok (.ct s) h) ∧ sp a s os ∧ Holds b os h
    | .ok (.bk a) => ∃ s h os, r = .ok (.bk s) h ∧ sp a s os ∧ Holds b os h
    | .ok (.rt a) => ∃ h, r = .ok (.rt (enc a)) h ∧ Bx b h
    | .exc c v => ∃ h, r = .exc c v h
    | .bad => True
  bad _ := trivial
  exc _ _ _ := ⟨_, rfl⟩
/-- .. that never goes on to what stands behind it -/
def Mode.nf (m : Mode δ) : Mode δ where
  res r n := n = .bad ∨ (m.res r n ∧ ∀ s h, r ≠ .ok (.nx s) h)
  bad _ := .inl rfl
  exc c v h := .inr ⟨m.exc c v h, fun _ _ z => nomatch z⟩
theorem Mode.of_bad (m : Mode δ) {r : R Fl} (e : n = .bad) : m.res r n := by rw [e]; exact m.bad r
/-! the end of a block -/
theorem seq_skip : sSeq f sSkip sv = f sv := by
  funext h
  unfold sSeq sSkip
  cases f sv h with
  | ok a h => cases a <;> rfl
  | exc _ _ _ => rfl
  | bad => rfl
theorem bj_one (h : BJ m b own sv (sSeq f sSkip) n) : BJ m b own sv f n := fun k H => by
  have := h k H
  rw [seq_skip] at this
  exact this
theorem seq_assoc {f g rest : SS} {h : Hv} : sSeq (sSeq f g) rest sv h = sSeq f (sSeq g rest) sv h := by
  unfold sSeq
  cases f sv h with
  | ok a h => cases a <;> rfl
  | exc _ _ _ => rfl
  | bad => rfl
theorem bj_assoc (h : BJ m b own sv (sSeq f (sSeq g rest)) n) : BJ m b own sv (sSeq (sSeq f g) rest) n := fun k H => by rw [seq_assoc]; exact h k H
theorem bj_skip (h : BJ m b own sv rest n) : BJ m b own sv (sSeq sSkip rest) n := h
theorem bj_part_end {sp : SPr γ} {a : γ} {os : List OI} (h : sp a sv own) : BJ (mPart b sp) b (own ++ os) sv sSkip (.ok a) := fun k H => ⟨sv, k, own, rfl, h, H.cut⟩
theorem bj_part_end0 {sp : SPr γ} {a : γ} (h : sp a sv own) : BJ (mPart b sp) b own sv sSkip (.ok a) := fun k H => ⟨sv, k, own, rfl, h, H⟩
theorem bj_turn_end {sp : SPr γ} {a : γ} {os : List OI} (h : sp a sv own) : BJ (mTurn ρ b sp) b (own ++ os) sv sSkip (.ok (.nx a)) := fun k H => ⟨sv, k, own, .inl rfl, h, H.cut⟩
theorem bj_turn_end0 {sp : SPr γ} {a : γ} (h : sp a sv own) : BJ (mTurn ρ b sp) b own sv sSkip (.ok (.nx a)) := fun k H => ⟨sv, k, own, .inl rfl, h, H⟩
theorem bj_lax_end : BJ (mLax b) b own sv sSkip (.ok ()) := fun k H => ⟨k, .inr ⟨sv, rfl⟩, H.1⟩
theorem bj_cnt {sp : SPr γ} {a : γ} (h : sp a sv own) : BJ (mTurn ρ b sp) b own sv sCnt (.ok (.nx a)) := fun k H => ⟨sv, k, own, .inr rfl, h, H⟩
theorem bj_brk {sp : SPr γ} {a : γ} (h : sp a sv own) : BJ (mTurn ρ b sp) b own sv sBrk (.ok (.bk a)) := fun k H => ⟨sv, k, own, rfl, h, H⟩
/-- extra things forgotten -/
theorem bj_cut {os : List OI} (h : BJ m b own sv f n) : BJ m b (own ++ os) sv f n := fun k H => h k H.cut
theorem bj_cnt_nf {sp : SPr γ} {a : γ} (h : sp a sv own) : BJ (mTurn ρ b sp).nf b own sv sCnt (.ok (.nx a)) := fun k H => .inr ⟨bj_cnt h k H, fun _ _ z => nomatch z⟩
theorem bj_brk_nf {sp : SPr γ} {a : γ} (h : sp a sv own) : BJ (mTurn ρ b sp).nf b own sv sBrk (.ok (.bk a)) := fun k H => .inr ⟨bj_brk h k H, fun _ _ z => nomatch z⟩
/-! modes that a value may be given back in -/
class RetM (m : Mode δ) (ρ : outParam Type) [Enc ρ] (b : outParam Bse) where
  rt : ρ → δ
  ok : ∀ a h, Bx b h → m.res (.ok (.rt (enc a)) h) (.ok (rt a))
  nx : ∀ a h, m.res (.ok (.rt (enc a)) h) (.ok (rt a)) → True
instance : RetM (mRet ρ b) ρ b := ⟨fun a => a, fun a h s => ⟨h, rfl, s⟩, fun _ _ _ => trivial⟩
instance : RetM (mLax b) Unit b := ⟨fun a => a, fun a h s => ⟨h, .inl rfl, s⟩, fun _ _ _ => trivial⟩
instance {sp : SPr γ} : RetM (mTurn ρ b sp) ρ b := ⟨.rt, fun a h s => ⟨h, rfl, s⟩, fun _ _ _ => trivial⟩
instance [r : RetM m ρ b] : RetM m.nf ρ b := ⟨r.rt, fun a h s => .inr ⟨r.ok a h s, fun _ _ z => nomatch z⟩, fun _ _ _ => trivial⟩
theorem bj_ret [r : RetM m ρ b] {nv : N ρ} (he : EJ (Holds b own) sv fe nv) : BJ m b own sv (sRet fe) (nv.bind fun a => .ok (r.rt a)) := fun k H => by
  have he := he k H
  cases nv with
  | bad => exact m.bad _
  | exc c v =>
    have e : sRet fe sv k = .exc c v k := by unfold sRet; rw [show fe sv k = .exc c v k from he]; rfl
    rw [e]; exact m.exc _ _ _
  | ok a =>
    have e : sRet fe sv k = .ok (.rt (enc a)) k := by unfold sRet; rw [show fe sv k = .ok (enc a) k from he]; rfl
    rw [e]; exact r.ok a k H.1
theorem bj_retN [r : RetM m Unit b] : BJ m b own sv sRetN (.ok (r.rt ())) := fun k H => r.ok () k H.1
/-- a list of one's own given back -/
theorem bj_retF {i k : Nat} {v : Val} {xs : List α} [r : RetM m (List α) b] (e : sv[i]? = some (some v)) (hk : own[k]? = some (OI.of (rpL (rpF α)) v xs)) : BJ m b own sv (sRet (sFrz (sVar i))) (.ok (r.rt xs)) := fun h H => by
  obtain ⟨s, F, p, nd, lo⟩ := H
  obtain ⟨A, B, C, eF, pb, g⟩ := OPs.at hk p
  obtain ⟨n, ws, F', e1, e2, e3, q⟩ := pb
  have q := q.plain
  rw [q.1] at e2
  subst e1
  have hn := lo n (by rw [eF, e3]; simp)
  have e : sRet (sFrz (sVar i)) sv h = .ok (.rt (enc xs)) (h.set n .dead) := by
    have e0 : sVar i sv h = .ok (.ref n) h := by unfold sVar; rw [e]
    unfold sRet sFrz
    rw [e0, bind_ok]
    unfold frz
    simp only [e2]
    rfl
  rw [e]
  refine r.ok xs _ ⟨by rw [List.length_set]; exact s.1, fun j hj hx => ?_⟩
  rw [List.getElem?_set_ne (fun z => by subst z; rcases hn with w | w; exact hx w; omega)]
  exact s.2 j hj hx
/-! ifs -/
theorem bj_ite (ht : TsJ (Holds b own) sv ft nt) (h1 : BJ m b own sv f n1) (h2 : BJ m b own sv g n2) : BJ m b own sv (sIte ft f g) (nt.bind fun k => if k = true then n1 else n2) := fun k H => by
  have ht := ht k H
  cases nt with
  | bad => exact m.bad _
  | exc c v =>
    have e : sIte ft f g sv k = .exc c v k := by unfold sIte; rw [show ft sv k = .exc c v k from ht]; rfl
    rw [e]; exact m.exc _ _ _
  | ok t =>
    have e : sIte ft f g sv k = if t = true then f sv k else g sv k := by unfold sIte; rw [show ft sv k = .ok t k from ht]; rfl
    rw [e]
    cases t
    · exact h2 k H
    · exact h1 k H
theorem seq_nonx {r : R Fl} (h : ∀ s k, r ≠ .ok (.nx s) k) : (r.bind fun f h1 => match f with | .nx s => rest s h1 | f => .ok f h1) = r := by
  cases r with
  | ok a k => cases a with
    | nx s => exact absurd rfl (h s k)
    | _ => rfl
  | exc _ _ _ => rfl
  | bad => rfl
/-- if .. : (never goes on); the rest -/
theorem bj_ifnf (ht : TsJ (Holds b own) sv ft nt) (h1 : BJ m.nf b own sv f n1) (h2 : BJ m b own sv (sSeq g rest) n2) : BJ m b own sv (sSeq (sIte ft f g) rest) (nt.bind fun k => if k = true then n1 else n2) := fun k H => by
  have ht := ht k H
  cases nt with
  | bad => exact m.bad _
  | exc c v =>
    have e : sSeq (sIte ft f g) rest sv k = .exc c v k := by unfold sSeq sIte; rw [show ft sv k = .exc c v k from ht]; rfl
    rw [e]; exact m.exc _ _ _
  | ok t =>
    have e : sSeq (sIte ft f g) rest sv k = if t = true then sSeq f rest sv k else sSeq g rest sv k := by unfold sSeq sIte; rw [show ft sv k = .ok t k from ht]; cases t <;> rfl
    rw [e]
    cases t
    · exact h2 k H
    · show m.res (sSeq f rest sv k) n1
      rcases h1 k H with z | ⟨z1, z2⟩
      · exact m.of_bad z
      · have e2 : sSeq f rest sv k = f sv k := seq_nonx z2
        rw [e2]; exact z1
theorem bj_ifnfE (ht : TsJ (Holds b own) sv ft nt) (h1 : BJ m b own sv (sSeq f rest) n1) (h2 : BJ m.nf b own sv g n2) : BJ m b own sv (sSeq (sIte ft f g) rest) (nt.bind fun k => if k = true then n1 else n2) := fun k H => by
  have ht := ht k H
  cases nt with
  | bad => exact m.bad _
  | exc c v =>
    have e : sSeq (sIte ft f g) rest sv k = .exc c v k := by unfold sSeq sIte; rw [show ft sv k = .exc c v k from ht]; rfl
    rw [e]; exact m.exc _ _ _
  | ok t =>
    have e : sSeq (sIte ft f g) rest sv k = if t = true then sSeq f rest sv k else sSeq g rest sv k := by unfold sSeq sIte; rw [show ft sv k = .ok t k from ht]; cases t <;> rfl
    rw [e]
    cases t
    · show m.res (sSeq g rest sv k) n2
      rcases h2 k H with z | ⟨z1, z2⟩
      · exact m.of_bad z
      · have e2 : sSeq g rest sv k = g sv k := seq_nonx z2
        rw [e2]; exact z1
    · exact h1 k H
/-- all of the block never goes on: for the last statement of such a block -/
theorem bj_ite_nf (ht : TsJ (Holds b own) sv ft nt) (h1 : BJ m.nf b own sv f n1) (h2 : BJ m.nf b own sv g n2) : BJ m.nf b own sv (sIte ft f g) (nt.bind fun k => if k = true then n1 else n2) := bj_ite ht h1 h2
/-- a part of a block, with what it tells, and the rest -/
theorem bj_part {sp : SPr γ} {ng : N γ} {k : γ → N δ} (h1 : BJ (mPart b sp) b own sv f ng) (h2 : ∀ a s os, sp a s os → BJ m b os s rest (k a)) : BJ m b own sv (sSeq f rest) (ng.bind k) := fun h H => by
  have h1 := h1 h H
  cases ng with
  | bad => exact m.bad _
  | exc c v =>
    obtain ⟨h', e⟩ := h1
    have e2 : sSeq f rest sv h = .exc c v h' := by unfold sSeq; rw [e]; rfl
    rw [e2]
    exact m.exc _ _ _
  | ok a =>
    obtain ⟨s, h', os, e, hs, H'⟩ := h1
    have e2 : sSeq f rest sv h = rest s h' := by unfold sSeq; rw [e]; rfl
    rw [e2]
    exact h2 a s os hs h' H'
/-! names -/
theorem bj_set {i : Nat} {k : α → N δ} (he : EJ (Holds b own) sv fe na) (h2 : ∀ a, BJ m b own (sv.set i (some (enc a))) rest (k a)) : BJ m b own sv (sSeq (sSet i fe) rest) (na.bind k) := fun h H => by
  have he := he h H
  cases na with
  | bad => exact m.bad _
  | exc c v =>
    have e2 : sSeq (sSet i fe) rest sv h = .exc c v h := by unfold sSeq sSet; rw [show fe sv h = .exc c v h from he]; rfl
    rw [e2]; exact m.exc _ _ _
  | ok a =>
    have e2 : sSeq (sSet i fe) rest sv h = rest (sv.set i (some (enc a))) h := by unfold sSeq sSet; rw [show fe sv h = .ok (enc a) h from he]; rfl
    rw [e2]
    exact h2 a h H
theorem bj_expr {k : α → N δ} (he : EJ (Holds b own) sv fe na) (h2 : ∀ a, BJ m b own sv rest (k a)) : BJ m b own sv (sSeq (sExpr fe) rest) (na.bind k) := fun h H => by
  have he := he h H
  cases na with
  | bad => exact m.bad _
  | exc c v =>
    have e2 : sSeq (sExpr fe) rest sv h = .exc c v h := by unfold sSeq sExpr; rw [show fe sv h = .exc c v h from he]; rfl
    rw [e2]; exact m.exc _ _ _
  | ok a =>
    have e2 : sSeq (sExpr fe) rest sv h = rest sv h := by unfold sSeq sExpr; rw [show fe sv h = .ok (enc a) h from he]; rfl
    rw [e2]
    exact h2 a h H
/-- x = [..], a list of one's own -/
theorem bj_new {i : Nat} {fs : SA} {ns : N (List α)} {k : List α → N δ} (he : LsJ (Holds b own) sv fs ns) (h2 : ∀ v xs, BJ m b (own ++ [OI.of (rpL (rpF α)) v xs]) (sv.set i (some v)) rest (k xs)) : BJ m b own sv (sSeq (sSet i (sLstN fs)) rest) (ns.bind fun xs => (szN xs).bind k) := fun h H => by
  have he := he h H
  cases ns with
  | bad => exact m.bad _
  | exc c v =>
    have e2 : sSeq (sSet i (sLstN fs)) rest sv h = .exc c v h := by unfold sSeq sSet sLstN; rw [show fs sv h = .exc c v h from he]; rfl
    rw [e2]; exact m.exc _ _ _
  | ok xs =>
    show m.res _ ((szN xs).bind k)
    unfold szN N.chk
    by_cases hl : xs.length ≤ 16777216
    · rw [if_pos hl]
      have e2 : sSeq (sSet i (sLstN fs)) rest sv h = rest (sv.set i (some (.ref h.length))) (h ++ [.lst (xs.map enc)]) := by
        unfold sSeq sSet sLstN; rw [show fs sv h = .ok (xs.map enc) h from he, bind_ok, List.length_map, if_pos hl]; rfl
      rw [e2]
      refine h2 (.ref h.length) xs _ (H.new (B := [h.length]) ⟨h.length, xs.map enc, [], rfl, by simp, rfl, RpL.mk xs⟩ (by simp) (fun j hj => by simp at hj; omega) ⟨by simp, fun j hj => by rw [List.getElem?_append_left hj]⟩)
    · rw [if_neg hl]; exact m.bad _
/-- x = list(..) -/
theorem bj_newC {i : Nat} {nl : N (List α)} {k : List α → N δ} (he : RJ (Holds b own) sv fe nl) (h2 : ∀ v xs, BJ m b (own ++ [OI.of (rpL (rpF α)) v xs]) (sv.set i (some v)) rest (k xs)) : BJ m b own sv (sSeq (sSet i (sCall cListN (sCons fe sNil))) rest) (nl.bind k) := fun h H => by
  have he := he h H
  cases nl with
  | bad => exact m.bad _
  | exc c v =>
    have e2 : sSeq (sSet i (sCall cListN (sCons fe sNil))) rest sv h = .exc c v h := by unfold sSeq sSet sCall sCons; rw [show fe sv h = .exc c v h from he]; rfl
    rw [e2]; exact m.exc _ _ _
  | ok xs =>
    obtain ⟨v, e1, a1⟩ := he
    have a1 : IsL h v (xs.map enc) := a1
    have e2 : sSeq (sSet i (sCall cListN (sCons fe sNil))) rest sv h = rest (sv.set i (some (.ref h.length))) (h ++ [.lst (xs.map enc)]) := by
      have e3 : cListN [v] h = .ok (.ref h.length) (h ++ [.lst (xs.map enc)]) := by unfold cListN c1 gItems; simp only [a1.1]
      unfold sSeq sSet sCall sCons sNil
      rw [e1, bind_ok, bind_ok, bind_ok, e3]
      rfl
    rw [e2]
    refine h2 (.ref h.length) xs _ (H.new (B := [h.length]) ⟨h.length, xs.map enc, [], rfl, by simp, rfl, RpL.mk xs⟩ (by simp) (fun j hj => by simp at hj; omega) ⟨by simp, fun j hj => by rw [List.getElem?_append_left hj]⟩)
theorem bj_newTu {i : Nat} {nl : N (Tu α)} {k : List α → N δ} (he : EJ (Holds b own) sv fe nl) (h2 : ∀ v xs, BJ m b (own ++ [OI.of (rpL (rpF α)) v xs]) (sv.set i (some v)) rest (k xs)) : BJ m b own sv (sSeq (sSet i (sCall cListN (sCons fe sNil))) rest) (nl.bind fun t => k t.l) := fun h H => by
  have he := he h H
  cases nl with
  | bad => exact m.bad _
  | exc c v =>
    have e2 : sSeq (sSet i (sCall cListN (sCons fe sNil))) rest sv h = .exc c v h := by unfold sSeq sSet sCall sCons; rw [show fe sv h = .exc c v h from he]; rfl
    rw [e2]; exact m.exc _ _ _
  | ok xs =>
    have e1 : fe sv h = .ok (.tup (xs.l.map enc)) h := he
    have e2 : sSeq (sSet i (sCall cListN (sCons fe sNil))) rest sv h = rest (sv.set i (some (.ref h.length))) (h ++ [.lst (xs.l.map enc)]) := by
      unfold sSeq sSet sCall sCons sNil
      rw [e1]
      rfl
    rw [e2]
    refine h2 (.ref h.length) xs.l _ (H.new (B := [h.length]) ⟨h.length, xs.l.map enc, [], rfl, by simp, rfl, RpL.mk xs.l⟩ (by simp) (fun j hj => by simp at hj; omega) ⟨by simp, fun j hj => by rw [List.getElem?_append_left hj]⟩)
/-- a change of a list of one's own: what a change of its cell does -/
theorem own_change {h : Hv} {i k : Nat} {v : Val} {xs ys : List α} (H : Holds b own h) (hk : own[k]? = some (OI.of (rpL (rpF α)) v xs)) : ∃ n, v = .ref n ∧ h[n]? = some (.lst (xs.map enc)) ∧ Holds b (own.set k (OI.of (rpL (rpF α)) v ys)) (h.set n (.lst (ys.map enc))) := by
  obtain ⟨B0, n, ws, F', e1, e2, e3, q⟩ := H.get hk
  have q := q.plain
  rw [q.1] at e2
  subst e1
  refine ⟨n, rfl, e2, H.put hk (fun B pB nd => ?_) (by rw [List.length_set]; exact Nat.le_refl _)⟩
  obtain ⟨n', ws', F'', e1', e2', e3', q'⟩ := pB
  cases e1'
  have q' := q'.plain
  rw [q'.2] at e3'
  refine ⟨[n], ⟨n, ys.map enc, [], rfl, by rw [List.getElem?_set_self (List.getElem?_eq_some_iff.mp e2).1], rfl, RpL.mk ys⟩, by simp, fun j hj => .inl (by rw [e3']; exact hj), fun j hj hB => List.getElem?_set_ne fun z => hB (by rw [e3', z]; exact List.mem_cons_self)⟩
def appN {α : Type} (xs : List α) (a : α) : N (List α) := .chk (xs.length < 16777216) (.ok (xs ++ [a]))
theorem bj_app {i k : Nat} {v : Val} {xs : List α} {kk : List α → N δ} (e : sv[i]? = some (some v)) (hk : own[k]? = some (OI.of (rpL (rpF α)) v xs)) (he : EJ (Holds b own) sv fe na) (h2 : ∀ ys, BJ m b (own.set k (OI.of (rpL (rpF α)) v ys)) sv rest (kk ys)) :
    BJ m b own sv (sSeq (sExpr (sMeth mAppend (sVar i) (sCons fe sNil))) rest) (na.bind fun a => (appN xs a).bind kk) := fun h H => by
  have he := he h H
  have e0 : sVar i sv h = .ok v h := by unfold sVar; rw [e]
  obtain ⟨n, e1, e2, _⟩ := own_change (ys := xs) (i := i) H hk
  subst e1
  have hL : (Val.ref n).isL h = true := by rw [isL_ref', e2]
  have key : sMeth mAppend (sVar i) (sCons fe sNil) sv h = (sCons fe sNil sv h).bind fun vs h2 => mAppend (.ref n) vs h2 := by
    unfold sMeth; rw [e0, bind_ok, if_pos hL]
  cases na with
  | bad => exact m.bad _
  | exc c v =>
    have e2 : sSeq (sExpr (sMeth mAppend (sVar i) (sCons fe sNil))) rest sv h = .exc c v h := by unfold sSeq sExpr; rw [key]; unfold sCons; rw [show fe sv h = .exc c v h from he]; rfl
    rw [e2]; exact m.exc _ _ _
  | ok a =>
    show m.res _ ((appN xs a).bind kk)
    unfold appN N.chk
    by_cases hl : xs.length < 16777216
    · rw [if_pos hl]
      obtain ⟨n', e1', _, H'⟩ := own_change (ys := xs ++ [a]) (i := i) H hk
      cases e1'
      have ap : mAppend (.ref n) [enc a] h = .ok .non (h.set n (.lst ((xs ++ [a]).map enc))) := by
        show onCell (lApp (enc a)) (.ref n) h = _
        unfold onCell
        simp only [e2]
        unfold lApp
        rw [List.length_map, if_pos hl, List.map_append]
        rfl
      have e3 : sSeq (sExpr (sMeth mAppend (sVar i) (sCons fe sNil))) rest sv h = rest sv (h.set n (.lst ((xs ++ [a]).map enc))) := by
        unfold sSeq sExpr; rw [key]; unfold sCons sNil; rw [show fe sv h = .ok (enc a) h from he, bind_ok, bind_ok, bind_ok, ap]; rfl
      rw [e3]
      exact h2 _ _ H'
    · rw [if_neg hl]; exact m.bad _
/-- xs[j] = e -/
def setN {α : Type} (xs : List α) (j : Int) (a : α) : N (List α) := match ixv xs j with
  | some _ => .ok (xs.set (if 0 ≤ j then j.toNat else (j + xs.length).toNat) a)
  | none => .bad
theorem bj_store {i k : Nat} {v : Val} {xs : List α} {nj : N Int} {kk : List α → N δ} (e : sv[i]? = some (some v)) (hk : own[k]? = some (OI.of (rpL (rpF α)) v xs)) (he : EJ (Holds b own) sv fe na) (hj : EJ (Holds b own) sv fb nj) (h2 : ∀ ys, BJ m b (own.set k (OI.of (rpL (rpF α)) v ys)) sv rest (kk ys)) :
    BJ m b own sv (sSeq (sAsg fe (gSub' (sVar i) fb)) rest) (na.bind fun a => nj.bind fun j => (setN xs j a).bind kk) := fun h H => by
  have he := he h H
  have hj := hj h H
  have e0 : sVar i sv h = .ok v h := by unfold sVar; rw [e]
  obtain ⟨n, e1, e2, _⟩ := own_change (ys := xs) (i := i) H hk
  subst e1
  cases na with
  | bad => exact m.bad _
  | exc c v =>
    have e2 : sSeq (sAsg fe (gSub' (sVar i) fb)) rest sv h = .exc c v h := by unfold sSeq sAsg; rw [show fe sv h = .exc c v h from he]; rfl
    rw [e2]; exact m.exc _ _ _
  | ok a =>
    have e4 : fe sv h = .ok (enc a) h := he
    cases nj with
    | bad => exact m.bad _
    | exc c v =>
      have e2 : sSeq (sAsg fe (gSub' (sVar i) fb)) rest sv h = .exc c v h := by unfold sSeq sAsg; rw [e4, bind_ok]; unfold gSub'; rw [e0, bind_ok, show fb sv h = .exc c v h from hj]; rfl
      rw [e2]; exact m.exc _ _ _
    | ok j =>
      have e5 : fb sv h = .ok (.int j) h := hj
      show m.res _ ((setN xs j a).bind kk)
      have hm := ixv_map (enc : α → Val) xs j
      unfold setN
      cases hx : ixv xs j with
      | none => exact m.bad _
      | some x =>
        rw [hx] at hm
        simp only [N.ok_bind]
        obtain ⟨n', e1', _, H'⟩ := own_change (ys := xs.set (if 0 ≤ j then j.toNat else (j + xs.length).toNat) a) (i := i) H hk
        cases e1'
        have st : cSet (.ref n) (.int j) (enc a) h = .ok .non (h.set n (.lst ((xs.set (if 0 ≤ j then j.toNat else (j + xs.length).toNat) a).map enc))) := by
          unfold cSet onCell
          simp only [e2, hm, Option.map_some, bind_ok, List.length_map, List.map_set]
        have e3 : sSeq (sAsg fe (gSub' (sVar i) fb)) rest sv h = rest sv (h.set n (.lst ((xs.set (if 0 ≤ j then j.toNat else (j + xs.length).toNat) a).map enc))) := by
          unfold sSeq sAsg; rw [e4, bind_ok]; unfold gSub'; rw [e0, bind_ok, e5, bind_ok, st]; rfl
        rw [e3]
        exact h2 _ _ H'
/-- nothing any more -/
def OI.no : OI := ⟨.non, fun _ F => F = [], fun h _ => h, fun h j hj => by rw [h] at hj; cases hj⟩
/-- a list of one's own that stays as it is from here on -/
theorem bj_frz {i k : Nat} {v : Val} {xs : List α} (e : sv[i]? = some (some v)) (hk : own[k]? = some (OI.of (rpL (rpF α)) v xs)) (h2 : BJ m b (own.set k OI.no) (sv.set i (some (enc xs))) rest n) : BJ m b own sv (sSeq (sFrzV i) rest) n := fun h H => by
  obtain ⟨B0, n', ws, F', e1, e2, e3, q⟩ := H.get hk
  have q := q.plain
  rw [q.1] at e2
  subst e1
  have e4 : sSeq (sFrzV i) rest sv h = rest (sv.set i (some (enc xs))) (h.set n' .dead) := by
    have e0 : sVar i sv h = .ok (.ref n') h := by unfold sVar; rw [e]
    unfold sSeq sFrzV
    rw [e0, bind_ok]
    unfold frz
    simp only [e2]
    rfl
  rw [e4]
  refine h2 _ (H.put (o' := OI.no) hk (fun B pB nd => ⟨[], (rfl : ([] : List Nat) = []), List.nodup_nil, fun j hj => (nomatch hj), fun j hj hB => ?_⟩) (by rw [List.length_set]; exact Nat.le_refl _))
  obtain ⟨n2, ws2, F2, x1, x2, x3, x4⟩ := pB
  cases x1
  exact List.getElem?_set_ne fun z => hB (by rw [x3, z]; exact List.mem_cons_self)
end
end Nx

set_option Elab.async false
set_option linter.all false
set_option maxRecDepth 100000
set_option maxHeartbeats 2000000
/-! NxLoop: loops, comprehensions, whole defs -/
namespace Nx
open Sx
open Enc (enc arg red)
open ToD (toD)
section
variable {α β γ δ ε ρ : Type} [Enc α] [Enc β] [Enc ρ] {m : Mode δ} {b : Bse} {own : List OI} {sv sv' : Env} {fa fb fe : SE} {na : N α} {n n1 n2 nr : N δ} {f g rest : SS} {ft : ST} {nt : N Bool} {A : As}
/-! what a for walks over -/
def IJ (A : As) (sv : Env) (fi : SI) (n : N (List α)) : Prop := ∀ h, A h → match n with
  | .ok xs => fi sv h = .ok (xs.map enc) h
  | .exc c v => fi sv h = .exc c v h
  | .bad => True
def rangeN (lo : Int) (n : Nat) : List Int := (List.range n).map fun (i : Nat) => lo + (i : Int)
theorem range_enc (lo : Int) (n : Nat) : rangeV lo n = (rangeN lo n).map enc := by unfold rangeV rangeN; rw [List.map_map]; rfl
theorem ij_v {nl : N (List α)} (he : VJ A sv fe nl) : IJ A sv (iVal fe) nl := fun h k => by
  have he := he h k
  cases nl with
  | bad => trivial
  | exc c v => show iVal fe sv h = _; unfold iVal; rw [show fe sv h = .exc c v h from he]; rfl
  | ok xs =>
    obtain ⟨v, e1, a1⟩ := he
    show iVal fe sv h = _
    unfold iVal
    rw [e1, bind_ok]
    rcases a1 with rfl | rfl <;> rfl
theorem ij_tu {nl : N (Tu α)} (he : EJ A sv fe nl) : IJ A sv (iVal fe) (nl.bind fun t => .ok t.l) := fun h k => by
  have he := he h k
  cases nl with
  | bad => trivial
  | exc c v => show iVal fe sv h = _; unfold iVal; rw [show fe sv h = .exc c v h from he]; rfl
  | ok xs => show iVal fe sv h = _; unfold iVal; rw [show fe sv h = .ok (.tup (xs.l.map enc)) h from he]; rfl
def D.its : D → N (List D)
  | .tup ds => .ok ds
  | .fl ds => .ok ds
  | _ => .bad
theorem ij_D {nl : N D} (he : EJ A sv fe nl) : IJ A sv (iVal fe) (nl.bind D.its) := fun h k => by
  have he := he h k
  cases nl with
  | bad => trivial
  | exc c v => show iVal fe sv h = _; unfold iVal; rw [show fe sv h = .exc c v h from he]; rfl
  | ok d =>
    have e1 : fe sv h = .ok d.enc h := he
    cases d with
    | tup ds => show iVal fe sv h = _; unfold iVal; rw [e1]; show R.ok (D.encs ds) h = _; rw [D.encs_map]; rfl
    | fl ds => show iVal fe sv h = _; unfold iVal; rw [e1]; show R.ok (D.encs ds) h = _; rw [D.encs_map]; rfl
    | _ => trivial
def range1N (j : Int) : N (List Int) := .chk (-4611686018427387904 ≤ j ∧ j < 4611686018427387904) (.ok (rangeN 0 j.toNat))
theorem ij_range1 {nj : N Int} (he : EJ A sv fe nj) : IJ A sv (iRange1 fe) (nj.bind range1N) := fun h k => by
  have he := he h k
  cases nj with
  | bad => trivial
  | exc c v => show iRange1 fe sv h = _; unfold iRange1; rw [show fe sv h = .exc c v h from he]; rfl
  | ok j =>
    have e : iRange1 fe sv h = if -4611686018427387904 ≤ j ∧ j < 4611686018427387904 then .ok (rangeV 0 j.toNat) h else .bad := by unfold iRange1; rw [show fe sv h = .ok (.int j) h from he]; rfl
    rw [e, N.ok_bind]
    unfold range1N N.chk
    by_cases c : -4611686018427387904 ≤ j ∧ j < 4611686018427387904
    · rw [if_pos c, if_pos c, range_enc]
    · rw [if_neg c, if_neg c]; trivial
def range2N (i j : Int) : N (List Int) := .chk ((-4611686018427387904 ≤ i ∧ i < 4611686018427387904) ∧ -4611686018427387904 ≤ j ∧ j < 4611686018427387904) (.ok (rangeN i (j - i).toNat))
theorem ij_range2 {ni nj : N Int} (hi : EJ A sv fa ni) (he : EJ A sv fe nj) : IJ A sv (iRange2 fa fe) (ni.bind fun i => nj.bind fun j => range2N i j) := fun h k => by
  have he := he h k
  have hi := hi h k
  cases ni with
  | bad => trivial
  | exc c v => show iRange2 fa fe sv h = _; unfold iRange2; rw [show fa sv h = .exc c v h from hi]; rfl
  | ok i =>
    have ei : fa sv h = .ok (.int i) h := hi
    cases nj with
    | bad => trivial
    | exc c v => show iRange2 fa fe sv h = _; unfold iRange2; rw [ei, bind_ok, show fe sv h = .exc c v h from he]; rfl
    | ok j =>
      have e : iRange2 fa fe sv h = if (-4611686018427387904 ≤ i ∧ i < 4611686018427387904) ∧ -4611686018427387904 ≤ j ∧ j < 4611686018427387904 then .ok (rangeV i (j - i).toNat) h else .bad := by unfold iRange2; rw [ei, bind_ok, show fe sv h = .ok (.int j) h from he]; rfl
      rw [e, N.ok_bind, N.ok_bind]
      unfold range2N N.chk
      by_cases c : (-4611686018427387904 ≤ i ∧ i < 4611686018427387904) ∧ -4611686018427387904 ≤ j ∧ j < 4611686018427387904
      · rw [if_pos c, if_pos c, range_enc]
      · rw [if_neg c, if_neg c]; trivial
/-- every thing as another type -/
def castN {α β : Type} (op : α → N β) : List α → N (List β)
  | [] => .ok []
  | x :: xs => (op x).bind fun y => (castN op xs).bind fun ys => .ok (y :: ys)
theorem cast_map {op : α → N β} (hop : ∀ a b, op a = .ok b → (enc b : Val) = enc a) : ∀ {xs : List α} {ys : List β}, castN op xs = .ok ys → ys.map enc = xs.map (enc : α → Val)
  | [], _, e => by cases e; rfl
  | x :: xs, ys, e => by
    unfold castN at e
    cases e1 : op x with
    | bad => rw [e1] at e; cases e
    | exc c v => rw [e1] at e; cases e
    | ok y =>
      rw [e1, N.ok_bind] at e
      cases e2 : castN op xs with
      | bad => rw [e2] at e; cases e
      | exc c v => rw [e2] at e; cases e
      | ok zs => rw [e2] at e; cases e; rw [List.map_cons, List.map_cons, hop _ _ e1, cast_map hop e2]
theorem cast_x {op : α → N β} (hx : ∀ a c v, op a ≠ .exc c v) : ∀ (xs : List α) c v, castN op xs ≠ .exc c v
  | [], _, _, e => by cases e
  | x :: xs, c, v, e => by
    unfold castN at e
    cases e1 : op x with
    | bad => rw [e1] at e; cases e
    | exc c v => exact hx _ _ _ e1
    | ok y =>
      rw [e1, N.ok_bind] at e
      cases e2 : castN op xs with
      | bad => rw [e2] at e; cases e
      | exc c v => exact cast_x hx xs _ _ e2
      | ok zs => rw [e2] at e; cases e
theorem ij_cast {nl : N (List α)} {op : α → N β} (hop : ∀ a b, op a = .ok b → (enc b : Val) = enc a) (hx : ∀ a c v, op a ≠ .exc c v) (h1 : IJ A sv fi nl) : IJ A sv fi (nl.bind (castN op)) := fun h k => by
  have h1 := h1 h k
  cases nl with
  | bad => trivial
  | exc c v => exact h1
  | ok xs =>
    rw [N.ok_bind]
    cases e : castN op xs with
    | bad => trivial
    | exc c v => exact absurd e (cast_x hx xs c v)
    | ok ys => show fi sv h = _; rw [cast_map hop e]; exact h1
def D.as2 : D → N (P2 D D)
  | .tup [a, b] => .ok ⟨a, b⟩
  | _ => .bad
def D.as3 : D → N (P3 D D D)
  | .tup [a, b, c] => .ok ⟨a, b, c⟩
  | _ => .bad
def D.as4 : D → N (P4 D D D D)
  | .tup [a, b, c, d] => .ok ⟨a, b, c, d⟩
  | _ => .bad
theorem as2_e : ∀ a b, D.as2 a = .ok b → (enc b : Val) = enc a := fun a b e => by
  unfold D.as2 at e
  split at e
  · cases e; rfl
  · cases e
theorem as2_x : ∀ a c v, D.as2 a ≠ .exc c v := fun a c v e => by
  unfold D.as2 at e
  split at e <;> cases e
theorem as3_e : ∀ a b, D.as3 a = .ok b → (enc b : Val) = enc a := fun a b e => by
  unfold D.as3 at e
  split at e
  · cases e; rfl
  · cases e
theorem as3_x : ∀ a c v, D.as3 a ≠ .exc c v := fun a c v e => by
  unfold D.as3 at e
  split at e <;> cases e
theorem as4_e : ∀ a b, D.as4 a = .ok b → (enc b : Val) = enc a := fun a b e => by
  unfold D.as4 at e
  split at e
  · cases e; rfl
  · cases e
theorem as4_x : ∀ a c v, D.as4 a ≠ .exc c v := fun a c v e => by
  unfold D.as4 at e
  split at e <;> cases e
/-! for -/
def forN {α γ : Type} : List α → γ → (α → γ → N γ) → N γ
  | [], g, _ => .ok g
  | x :: xs, g, f => (f x g).bind fun g' => forN xs g' f
def ctlK {ρ γ δ : Type} (c : Ctl ρ γ) (r : ρ → N δ) (k : γ → N δ) : N δ := match c with
  | .nx g => k g
  | .bk g => k g
  | .rt a => r a
def forC {α γ ρ : Type} : List α → γ → (α → γ → N (Ctl ρ γ)) → N (Ctl ρ γ)
  | [], g, _ => .ok (.nx g)
  | x :: xs, g, f => (f x g).bind fun c => match c with
    | .nx g' => forC xs g' f
    | .bk g' => .ok (.bk g')
    | .rt a => .ok (.rt a)
def Tgt (gt : SG) (up : α → Env → Env) : Prop := ∀ x s h, gt (enc x) s h = .ok (up x s) h
theorem tgt_nm {i : Nat} : Tgt (gNm i) fun (x : α) s => s.set i (some (enc x)) := fun _ _ _ => rfl
theorem tgt_p2 [Enc γ] {i j : Nat} : Tgt (gTp [i, j]) fun (x : P2 α γ) s => (s.set i (some (enc x.a))).set j (some (enc x.b)) := fun _ _ _ => rfl
theorem tgt_p3 [Enc γ] [Enc δ] {i j k : Nat} : Tgt (gTp [i, j, k]) fun (x : P3 α γ δ) s => ((s.set i (some (enc x.a))).set j (some (enc x.b))).set k (some (enc x.c)) := fun _ _ _ => rfl
theorem tgt_p4 [Enc γ] [Enc δ] [Enc ε] {i j k l : Nat} : Tgt (gTp [i, j, k, l]) fun (x : P4 α γ δ ε) s => (((s.set i (some (enc x.a))).set j (some (enc x.b))).set k (some (enc x.c))).set l (some (enc x.d)) := fun _ _ _ => rfl
theorem sForL_cons {gt : SG} {body : SS} {v : Val} {vs : List Val} {sv : Env} {h : Hv} : sForL gt body (v :: vs) sv h = (gt v sv h).bind fun s1 h1 => (body s1 h1).bind fun f h2 => match f with
      | .nx s => sForL gt body vs s h2
      | .ct s => sForL gt body vs s h2
      | .bk s => .ok (.nx s) h2
      | .rt v => .ok (.rt v) h2 := rfl
theorem sWhile_succ {ct : ST} {body : SS} {fuel : Nat} {sv : Env} {h : Hv} : sWhile ct body (fuel + 1) sv h = (ct sv h).bind fun k h1 => if k = true then (body sv h1).bind fun f h2 => (match f with
      | .nx s => sWhile ct body fuel s h2
      | .ct s => sWhile ct body fuel s h2
      | .bk s => .ok (.nx s) h2
      | .rt v => .ok (.rt v) h2) else .ok (.nx sv) h1 := rfl
theorem bj_for {sp : SPr γ} {it : SI} {gt : SG} {up : α → Env → Env} {body : SS} {nl : N (List α)} {g0 : γ} {nb : α → γ → N γ} (hi : IJ (Holds b own) sv it nl) (ht : Tgt gt up) (h0 : sp g0 sv own)
    (hb : ∀ x g s os, sp g s os → BJ (mPart b sp) b os (up x s) body (nb x g)) : BJ (mPart b sp) b own sv (sFor it gt body) (nl.bind fun xs => forN xs g0 nb) := fun h H => by
  have hi1 := hi h H
  cases nl with
  | bad => trivial
  | exc c v => exact ⟨h, by unfold sFor; rw [show it sv h = .exc c v h from hi1]; rfl⟩
  | ok xs =>
    have e : sFor it gt body sv h = sForL gt body (xs.map enc) sv h := by unfold sFor; rw [show it sv h = .ok (xs.map enc) h from hi1]; rfl
    rw [e, N.ok_bind]
    clear e hi hi1
    induction xs generalizing g0 sv own h with
    | nil => exact ⟨sv, h, own, rfl, h0, H⟩
    | cons x xs ih =>
      have hb := hb x g0 sv own h0 h H
      rw [List.map_cons]
      rw [sForL_cons, ht x sv h, bind_ok]
      unfold forN
      cases e : nb x g0 with
      | bad => trivial
      | exc c v =>
        rw [e] at hb
        obtain ⟨h', e2⟩ := hb
        rw [e2]
        exact ⟨h', rfl⟩
      | ok g1 =>
        rw [e] at hb
        obtain ⟨s1, h1, os1, e2, p1, H1⟩ := hb
        rw [e2]
        exact ih p1 _ H1
theorem bj_forC {sp : SPr γ} {it : SI} {gt : SG} {up : α → Env → Env} {body : SS} {nl : N (List α)} {g0 : γ} {nb : α → γ → N (Ctl ρ γ)} {k : γ → N δ} [r : RetM m ρ b] (hi : IJ (Holds b own) sv it nl) (ht : Tgt gt up) (h0 : sp g0 sv own)
    (hb : ∀ x g s os, sp g s os → BJ (mTurn ρ b sp) b os (up x s) body (nb x g)) (hr : ∀ g s os, sp g s os → BJ m b os s rest (k g)) : BJ m b own sv (sSeq (sFor it gt body) rest) (nl.bind fun xs => (forC xs g0 nb).bind fun c => ctlK c (fun a => .ok (r.rt a)) k) := fun h H => by
  have hi1 := hi h H
  cases nl with
  | bad => exact m.bad _
  | exc c v =>
    have e : sSeq (sFor it gt body) rest sv h = .exc c v h := by unfold sSeq sFor; rw [show it sv h = .exc c v h from hi1]; rfl
    rw [e]; exact m.exc _ _ _
  | ok xs =>
    have e : sSeq (sFor it gt body) rest sv h = sSeq (sForL gt body (xs.map enc)) rest sv h := by unfold sSeq sFor; rw [show it sv h = .ok (xs.map enc) h from hi1]; rfl
    rw [e, N.ok_bind]
    clear e hi hi1
    induction xs generalizing g0 sv own h with
    | nil => exact hr g0 sv own h0 h H
    | cons x xs ih =>
      have hb := hb x g0 sv own h0 h H
      have ee : sSeq (sForL gt body ((x :: xs).map enc)) rest sv h = ((body (up x sv) h).bind fun f h2 => match f with
          | .nx s => sForL gt body (xs.map enc) s h2
          | .ct s => sForL gt body (xs.map enc) s h2
          | .bk s => .ok (.nx s) h2
          | .rt v => .ok (.rt v) h2).bind fun f h1 => match f with
          | .nx s => rest s h1
          | f => .ok f h1 := by
        rw [List.map_cons]
        unfold sSeq
        rw [sForL_cons, ht x sv h, bind_ok]
        try rfl
      rw [ee]
      unfold forC
      cases e : nb x g0 with
      | bad => exact m.bad _
      | exc c v =>
        rw [e] at hb
        obtain ⟨h', e2⟩ := hb
        rw [e2]
        exact m.exc _ _ _
      | ok cc =>
        rw [e] at hb
        cases cc with
        | nx g1 =>
          obtain ⟨s1, h1, os1, e2, p1, H1⟩ := hb
          have := ih p1 _ H1
          rcases e2 with e2 | e2 <;> (rw [e2]; exact this)
        | bk g1 =>
          obtain ⟨s1, h1, os1, e2, p1, H1⟩ := hb
          rw [e2]
          exact hr g1 s1 os1 p1 h1 H1
        | rt a =>
          obtain ⟨h1, e2, s1⟩ := hb
          rw [e2]
          exact r.ok a h1 s1
/-! while -/
def whileN {γ : Type} : Nat → γ → (γ → N Bool) → (γ → N γ) → N γ
  | 0, _, _, _ => .bad
  | n + 1, g, c, f => (c g).bind fun k => if k = true then (f g).bind fun g' => whileN n g' c f else .ok g
theorem bj_while {sp : SPr γ} {ct : ST} {body : SS} {nc : γ → N Bool} {nb : γ → N γ} (hc : ∀ g s os, sp g s os → TsJ (Holds b os) s ct (nc g)) (hb : ∀ g s os, sp g s os → BJ (mPart b sp) b os s body (nb g)) :
    ∀ (fuel : Nat) {g0 : γ} {sv : Env} {own : List OI}, sp g0 sv own → BJ (mPart b sp) b own sv (sWhile ct body fuel) (whileN fuel g0 nc nb)
  | 0, _, _, _, _ => fun _ _ => trivial
  | fuel + 1, g0, sv, own, h0 => fun h H => by
    have h1 := hc g0 sv own h0 h H
    unfold sWhile whileN
    cases e : nc g0 with
    | bad => trivial
    | exc c v => rw [e] at h1; exact ⟨h, by rw [show ct sv h = .exc c v h from h1]; rfl⟩
    | ok k =>
      rw [e] at h1
      rw [show ct sv h = .ok k h from h1, bind_ok, N.ok_bind]
      cases k with
      | false => exact ⟨sv, h, own, rfl, h0, H⟩
      | true =>
        have hb1 := hb g0 sv own h0 h H
        rw [if_pos rfl, if_pos rfl]
        cases e3 : nb g0 with
        | bad => trivial
        | exc c v =>
          rw [e3] at hb1
          obtain ⟨h', e2⟩ := hb1
          rw [e2]
          exact ⟨h', rfl⟩
        | ok g1 =>
          rw [e3] at hb1
          obtain ⟨s1, h1, os1, e2, p1, H1⟩ := hb1
          rw [e2]
          exact bj_while hc hb fuel p1 h1 H1
def whileC {γ ρ : Type} : Nat → γ → (γ → N Bool) → (γ → N (Ctl ρ γ)) → N (Ctl ρ γ)
  | 0, _, _, _ => .bad
  | n + 1, g, c, f => (c g).bind fun k => if k = true then (f g).bind fun x => match x with
    | .nx g' => whileC n g' c f
    | .bk g' => .ok (.bk g')
    | .rt a => .ok (.rt a) else .ok (.nx g)
theorem bj_whileC {sp : SPr γ} {ct : ST} {body : SS} {nc : γ → N Bool} {nb : γ → N (Ctl ρ γ)} {k : γ → N δ} [r : RetM m ρ b] (hc : ∀ g s os, sp g s os → TsJ (Holds b os) s ct (nc g)) (hb : ∀ g s os, sp g s os → BJ (mTurn ρ b sp) b os s body (nb g)) (hr : ∀ g s os, sp g s os → BJ m b os s rest (k g)) :
    ∀ (fuel : Nat) {g0 : γ} {sv : Env} {own : List OI}, sp g0 sv own → BJ m b own sv (sSeq (sWhile ct body fuel) rest) ((whileC fuel g0 nc nb).bind fun c => ctlK c (fun a => .ok (r.rt a)) k)
  | 0, _, _, _, _ => fun _ _ => m.bad _
  | fuel + 1, g0, sv, own, h0 => fun h H => by
    have h1 := hc g0 sv own h0 h H
    have ee : sSeq (sWhile ct body (fuel + 1)) rest sv h = (ct sv h).bind fun k h1 => if k = true then ((body sv h1).bind fun f h2 => (match f with
      | .nx s => sWhile ct body fuel s h2
      | .ct s => sWhile ct body fuel s h2
      | .bk s => .ok (.nx s) h2
      | .rt v => .ok (.rt v) h2)).bind fun f h1 => (match f with
          | .nx s => rest s h1
          | f => .ok f h1) else rest sv h1 := by
      unfold sSeq
      rw [sWhile_succ]
      cases ct sv h with
      | ok k h1 => cases k <;> rfl
      | exc _ _ _ => rfl
      | bad => rfl
    rw [ee]
    unfold whileC
    cases e : nc g0 with
    | bad => exact m.bad _
    | exc c v =>
      rw [e] at h1
      rw [show ct sv h = .exc c v h from h1]
      exact m.exc _ _ _
    | ok kk =>
      rw [e] at h1
      rw [show ct sv h = .ok kk h from h1, bind_ok, N.ok_bind]
      cases kk with
      | false => exact hr g0 sv own h0 h H
      | true =>
        have hb1 := hb g0 sv own h0 h H
        rw [if_pos rfl, if_pos rfl]
        cases e3 : nb g0 with
        | bad => exact m.bad _
        | exc c v =>
          rw [e3] at hb1
          obtain ⟨h', e2⟩ := hb1
          rw [e2]
          exact m.exc _ _ _
        | ok cc =>
          rw [e3] at hb1
          cases cc with
          | nx g1 =>
            obtain ⟨s1, h1, os1, e2, p1, H1⟩ := hb1
            have := bj_whileC hc hb hr fuel p1 h1 H1
            rcases e2 with e2 | e2 <;> (rw [e2]; exact this)
          | bk g1 =>
            obtain ⟨s1, h1, os1, e2, p1, H1⟩ := hb1
            rw [e2]
            exact hr g1 s1 os1 p1 h1 H1
          | rt a =>
            obtain ⟨h1, e2, s1⟩ := hb1
            rw [e2]
            exact r.ok a h1 s1
/-! comprehensions -/
def lcN {α β : Type} (t : α → N Bool) (f : α → N β) : Nat → List α → N (List β)
  | _, [] => .ok []
  | n, x :: xs => (t x).bind fun k => if k = true then (f x).bind fun y => .chk (n < 16777216) ((lcN t f (n + 1) xs).bind fun ys => .ok (y :: ys)) else lcN t f n xs
theorem ej_lc {own : List Nat} {it : SI} {gt : SG} {up : α → Env → Env} {nl : N (List α)} {t : α → N Bool} {ff : α → N β} (hi : IJ A sv it nl) (hg : Tgt gt up) (ht : ∀ x, TsJ A (up x (wipeE sv own)) ft (t x)) (he : ∀ x, EJ A (up x (wipeE sv own)) fe (ff x)) :
    EJ A sv (sLc own it gt ft fe) (nl.bind fun xs => noE (lcN t ff 0 xs)) := fun h k => by
  have hi := hi h k
  cases nl with
  | bad => trivial
  | exc c v => show sLc own it gt ft fe sv h = _; unfold sLc; rw [show it sv h = .exc c v h from hi]; rfl
  | ok xs =>
    have e : sLc own it gt ft fe sv h = noX ((sLcL gt ft fe (wipeE sv own) 0 (xs.map enc) h).bind fun ys h2 => .ok (.fl ys) h2) := by unfold sLc; rw [show it sv h = .ok (xs.map enc) h from hi]; rfl
    rw [e, N.ok_bind]
    have key : ∀ (xs : List α) (j : Nat), match lcN t ff j xs with
        | .ok ys => sLcL gt ft fe (wipeE sv own) j (xs.map enc) h = .ok (ys.map enc) h
        | _ => True := by
      intro xs
      induction xs with
      | nil => intro j; rfl
      | cons x xs ih =>
        intro j
        rw [List.map_cons]
        unfold lcN
        have ht := ht x h k
        cases e1 : t x with
        | bad => trivial
        | exc c v => trivial
        | ok kk =>
          rw [e1] at ht
          have hs : sLcL gt ft fe (wipeE sv own) j (enc x :: xs.map enc) h = if kk = true then (fe (up x (wipeE sv own)) h).bind fun y h3 => if j < 16777216 then (sLcL gt ft fe (wipeE sv own) (j + 1) (xs.map enc) h3).bind fun ys h4 => .ok (y :: ys) h4 else .bad else sLcL gt ft fe (wipeE sv own) j (xs.map enc) h := by
            conv => lhs; unfold sLcL
            rw [hg x _ h, bind_ok, show ft (up x (wipeE sv own)) h = .ok kk h from ht, bind_ok]
          rw [hs, N.ok_bind]
          cases kk with
          | false => exact ih j
          | true =>
            rw [if_pos rfl, if_pos rfl]
            have he := he x h k
            cases e2 : ff x with
            | bad => trivial
            | exc c v => trivial
            | ok y =>
              rw [e2] at he
              rw [show fe (up x (wipeE sv own)) h = .ok (enc y) h from he, bind_ok, N.ok_bind]
              unfold N.chk
              by_cases hj : j < 16777216
              · rw [if_pos hj, if_pos hj]
                have ih := ih (j + 1)
                cases e3 : lcN t ff (j + 1) xs with
                | bad => trivial
                | exc c v => trivial
                | ok ys =>
                  rw [e3] at ih
                  rw [show sLcL gt ft fe (wipeE sv own) (j + 1) (xs.map enc) h = .ok (ys.map enc) h from ih, bind_ok]
                  rfl
              · rw [if_neg hj]; trivial
    have := key xs 0
    cases e1 : lcN t ff 0 xs with
    | bad => trivial
    | exc c v => trivial
    | ok ys =>
      rw [e1] at this
      rw [show sLcL gt ft fe (wipeE sv own) 0 (xs.map enc) h = .ok (ys.map enc) h from this]
      rfl
theorem ts_true : TsJ A sv tTrue (.ok true) := fun _ _ => rfl
/-! parts of lists -/
def PoJ (A : As) (sv : Env) (fo : SO) (n : N (Option Int)) : Prop := ∀ h, A h → match n with
  | .ok o => fo sv h = .ok o h
  | .exc c v => fo sv h = .exc c v h
  | .bad => True
theorem po_no : PoJ A sv sNo (.ok none) := fun _ _ => rfl
theorem po_e {n : N Int} (he : EJ A sv fe n) : PoJ A sv (sPart fe) (n.bind fun i => .ok (some i)) := fun h k => by
  have he := he h k
  cases n with
  | bad => trivial
  | exc c v => show sPart fe sv h = _; unfold sPart; rw [show fe sv h = .exc c v h from he]; rfl
  | ok i => show sPart fe sv h = _; unfold sPart; rw [show fe sv h = .ok (.int i) h from he]; rfl
theorem ej_sl {op : α → Option Int → Option Int → N β} {f1 f2 : SO} {o1 o2 : N (Option Int)} (hop : ∀ h v a lo hi, red h v a → Sim (gSl v lo hi h) (op a lo hi) h) (ha : RJ A sv fa na) (h1 : PoJ A sv f1 o1) (h2 : PoJ A sv f2 o2) :
    EJ A sv (sSl fa f1 f2) (na.bind fun a => o1.bind fun lo => o2.bind fun hi => op a lo hi) := fun h k => by
  have ha := ha h k
  have h1 := h1 h k
  have h2 := h2 h k
  cases na with
  | bad => trivial
  | exc c v => show sSl fa f1 f2 sv h = _; unfold sSl; rw [show fa sv h = .exc c v h from ha]; rfl
  | ok a =>
    obtain ⟨v, e1, a1⟩ := ha
    cases o1 with
    | bad => trivial
    | exc c v => show sSl fa f1 f2 sv h = _; unfold sSl; rw [e1, bind_ok, show f1 sv h = .exc c v h from h1]; rfl
    | ok lo =>
      have h1 : f1 sv h = .ok lo h := h1
      cases o2 with
      | bad => trivial
      | exc c v => show sSl fa f1 f2 sv h = _; unfold sSl; rw [e1, bind_ok, h1, bind_ok, show f2 sv h = .exc c v h from h2]; rfl
      | ok hi =>
        show Sim (sSl fa f1 f2 sv h) (op a lo hi) h
        unfold sSl
        rw [e1, bind_ok, h1, bind_ok, show f2 sv h = .ok hi h from h2, bind_ok]
        exact hop h v a lo hi a1
theorem cut_map {α β : Type} (f : α → β) (xs : List α) (lo hi : Option Int) : cutL (xs.map f) lo hi = (cutL xs lo hi).map f := by
  unfold cutL
  rw [List.length_map, List.map_take, List.map_drop]
theorem s_L : ∀ h v (a : List α) lo hi, red h v a → Sim (gSl v lo hi h) (.ok (cutL a lo hi)) h := fun h v a lo hi e => by
  have e : IsL h v (a.map enc) := e
  show _ = R.ok (Val.fl ((cutL a lo hi).map enc)) h
  rw [← cut_map]
  rcases IsL.cases e with rfl | rfl | ⟨i, rfl, hi'⟩
  · rfl
  · rfl
  · unfold gSl; simp only [hi']
def cutT {α : Type} (a : Tu α) (lo hi : Option Int) : N (Tu α) := if slB a.l.length 0 lo = 0 ∧ slB a.l.length a.l.length hi = a.l.length then .bad else .ok ⟨cutL a.l lo hi⟩
theorem s_T : ∀ h v (a : Tu α) lo hi, red h v a → Sim (gSl v lo hi h) (cutT a lo hi) h := fun h v a lo hi e => by
  cases e
  show Sim (if slB (a.l.map enc).length 0 lo = 0 ∧ slB (a.l.map enc).length (a.l.map enc).length hi = (a.l.map enc).length then .bad else R.ok (Val.tup (cutL (a.l.map enc) lo hi)) h) _ h
  unfold cutT
  rw [List.length_map, cut_map]
  split
  · trivial
  · rfl
def cutS (a : List Nat) (lo hi : Option Int) : N (List Nat) := .chk (a.length ≤ 16777216) (.ok (cutL a lo hi))
theorem s_S : ∀ h v (a : List Nat) lo hi, red h v a → Sim (gSl v lo hi h) (cutS a lo hi) h := fun h v a lo hi e => by
  cases e
  exact sim_chk rfl fun _ => rfl
def D.cut (d : D) (lo hi : Option Int) : N D := match d with
  | .tup ds => (cutT ⟨ds⟩ lo hi).bind fun t => .ok (.tup t.l)
  | .fl ds => .ok (.fl (cutL ds lo hi))
  | .str s => (cutS s lo hi).bind fun s => .ok (.str s)
  | _ => .bad
theorem s_D : ∀ h v (a : D) lo hi, red h v a → Sim (gSl v lo hi h) (D.cut a lo hi) h := fun h v a lo hi e => by
  cases e
  cases a with
  | tup ds =>
    have := s_T h (Val.tup (ds.map enc)) (⟨ds⟩ : Tu D) lo hi rfl
    show Sim (gSl (Val.tup (D.encs ds)) lo hi h) ((cutT ⟨ds⟩ lo hi).bind fun t => .ok (D.tup t.l)) h
    rw [D.encs_map]
    cases e : cutT ⟨ds⟩ lo hi with
    | bad => trivial
    | exc c v => rw [e] at this; exact this
    | ok t =>
      rw [e] at this
      refine (show gSl (Val.tup (ds.map D.enc)) lo hi h = .ok (Val.tup (t.l.map D.enc)) h from this).trans ?_
      rw [← D.encs_map]; rfl
  | fl ds =>
    show R.ok (Val.fl (cutL (D.encs ds) lo hi)) h = .ok (Val.fl (D.encs (cutL ds lo hi))) h
    rw [D.encs_map, D.encs_map, cut_map]
  | str s =>
    have := s_S h _ s lo hi rfl
    show Sim (gSl (Val.str s) lo hi h) ((cutS s lo hi).bind fun s => .ok (D.str s)) h
    cases e : cutS s lo hi with
    | bad => trivial
    | exc c v => rw [e] at this; exact this
    | ok t => rw [e] at this; exact this
  | _ => trivial
/-! list(x), tuple(x), all, any -/
theorem b_listL : ∀ h v (a : List α), red h v a → Sim ((gItems fun vs h => R.ok (Val.fl vs) h) v h) (.ok a) h := fun h v a e => by
  have e : IsL h v (a.map enc) := e
  show gItems _ v h = _
  unfold gItems
  rw [e.1]; rfl
theorem b_listT : ∀ h v (a : Tu α), red h v a → Sim ((gItems fun vs h => R.ok (Val.fl vs) h) v h) (.ok a.l) h := fun h v a e => by
  cases e
  rfl
theorem b_tupL : ∀ h v (a : List α), red h v a → Sim (gTup' v h) (.ok (Tu.mk a)) h := fun h v a e => by
  have e : IsL h v (a.map enc) := e
  have g : gTup' v h = gItems (fun vs h => R.ok (Val.tup vs) h) v h := by rcases IsL.cases e with rfl | rfl | ⟨i, rfl, hi'⟩ <;> rfl
  rw [g]
  show gItems _ v h = _
  unfold gItems
  rw [e.1]; rfl
theorem b_tupT : ∀ h v (a : Tu α), red h v a → Sim (gTup' v h) (.ok a) h := fun h v a e => by
  cases e
  rfl
theorem ej_b1E {g : Val → Hv → R Val} {op : α → N β} (hop : ∀ h a, Sim (g (enc a) h) (op a) h) (h1 : EJ A sv fa na) : EJ A sv (sCall (c1 g) (sCons fa sNil)) (na.bind op) := fun h k => by
  have h1 := h1 h k
  cases na with
  | bad => trivial
  | exc c v => show sCall (c1 g) (sCons fa sNil) sv h = _; unfold sCall sCons; rw [show fa sv h = .exc c v h from h1]; rfl
  | ok a =>
    have e : sCall (c1 g) (sCons fa sNil) sv h = g (enc a) h := by unfold sCall sCons; rw [show fa sv h = .ok (enc a) h from h1]; rfl
    rw [e]
    exact hop h a
theorem bls_enc : ∀ a : List Bool, blsOf (a.map enc) = some a
  | [] => rfl
  | x :: xs => by show ((Val.bl x).bl?.bind fun b => (blsOf (xs.map enc)).map (b :: ·)) = _; rw [bls_enc xs]; rfl
theorem b_all : ∀ h (a : List Bool), Sim (gBls (fun bs => bs.all id) (enc a) h) (.ok (a.all id)) h := fun h a => by
  show (match blsOf (a.map enc) with | some bs => R.ok (Val.bl (bs.all id)) h | none => .bad) = _
  rw [bls_enc]; rfl
theorem b_any : ∀ h (a : List Bool), Sim (gBls (fun bs => bs.any id) (enc a) h) (.ok (a.any id)) h := fun h a => by
  show (match blsOf (a.map enc) with | some bs => R.ok (Val.bl (bs.any id)) h | none => .bad) = _
  rw [bls_enc]; rfl
theorem b_intI : ∀ h (a : Int), Sim ((fun v h => match v with | .int i => .ok (.int i) h | .bl b => .ok (.int (if b = true then 1 else 0)) h | _ => .bad : Val → Hv → R Val) (enc a) h) (.ok a) h := fun h a => rfl
theorem b_intB : ∀ h (a : Bool), Sim ((fun v h => match v with | .int i => .ok (.int i) h | .bl b => .ok (.int (if b = true then 1 else 0)) h | _ => .bad : Val → Hv → R Val) (enc a) h) (.ok (if a = true then (1 : Int) else 0)) h := fun h a => rfl
/-! a, b = e -/
theorem bj_asg {gt : SG} {up : α → Env → Env} {k : α → N δ} (hg : Tgt gt up) (he : EJ (Holds b own) sv fe na) (h2 : ∀ a, BJ m b own (up a sv) rest (k a)) : BJ m b own sv (sSeq (sAsg fe gt) rest) (na.bind k) := fun h H => by
  have he := he h H
  cases na with
  | bad => exact m.bad _
  | exc c v =>
    have e2 : sSeq (sAsg fe gt) rest sv h = .exc c v h := by unfold sSeq sAsg; rw [show fe sv h = .exc c v h from he]; rfl
    rw [e2]; exact m.exc _ _ _
  | ok a =>
    have e2 : sSeq (sAsg fe gt) rest sv h = rest (up a sv) h := by unfold sSeq sAsg; rw [show fe sv h = .ok (enc a) h from he, bind_ok, hg a sv h]; rfl
    rw [e2]
    exact h2 a h H
theorem bj_par2 {i j : Nat} {nb' : N β} {k : α → β → N δ} (ha : EJ (Holds b own) sv fa na) (hb : EJ (Holds b own) sv fb nb') (h2 : ∀ x y, BJ m b own ((sv.set i (some (enc x))).set j (some (enc y))) rest (k x y)) : BJ m b own sv (sSeq (sPar2 i j (sCons fa (sCons fb sNil))) rest) (na.bind fun x => nb'.bind fun y => k x y) := fun h H => by
  have ha := ha h H
  have hb := hb h H
  cases na with
  | bad => exact m.bad _
  | exc c v =>
    have e2 : sSeq (sPar2 i j (sCons fa (sCons fb sNil))) rest sv h = .exc c v h := by unfold sSeq sPar2 sCons; rw [show fa sv h = .exc c v h from ha]; rfl
    rw [e2]; exact m.exc _ _ _
  | ok a =>
    have ha : fa sv h = .ok (enc a) h := ha
    cases nb' with
    | bad => exact m.bad _
    | exc c v =>
      have e2 : sSeq (sPar2 i j (sCons fa (sCons fb sNil))) rest sv h = .exc c v h := by unfold sSeq sPar2 sCons; rw [ha, bind_ok, show fb sv h = .exc c v h from hb]; rfl
      rw [e2]; exact m.exc _ _ _
    | ok y =>
      have e2 : sSeq (sPar2 i j (sCons fa (sCons fb sNil))) rest sv h = rest ((sv.set i (some (enc a))).set j (some (enc y))) h := by unfold sSeq sPar2 sCons; rw [ha, bind_ok, show fb sv h = .ok (enc y) h from hb]; rfl
      rw [e2]
      exact h2 a y h H
/-! whole defs -/
mutual
theorem lt_mono {n : Nat} : ∀ v : Val, v.lt 0 = true → v.lt n = true
  | .non, _ => rfl
  | .bl _, _ => rfl
  | .int _, _ => rfl
  | .str _, _ => rfl
  | .ref i, h => by simp [Val.lt] at h
  | .tup vs, h => lts_mono vs h
  | .fl vs, h => lts_mono vs h
  | .kl vs, h => lts_mono vs h
theorem lts_mono {n : Nat} : ∀ vs : List Val, Val.lt.ltl 0 vs = true → Val.lt.ltl n vs = true
  | [], _ => rfl
  | v :: vs, h => by
    have h : (Val.lt 0 v && Val.lt.ltl 0 vs) = true := h
    rw [Bool.and_eq_true] at h
    show (Val.lt n v && Val.lt.ltl n vs) = true
    rw [lt_mono v h.1, lts_mono vs h.2]; rfl
end
theorem trunc_of {F : SF} {us : List Val} {h h' : Hv} {a : α} (e : F us h = .ok (enc a) h') (s0 : Bx ⟨h, []⟩ h') : trunc F us h = .ok (enc a) h := by
  have s : Bs h h' := ⟨s0.1, fun j hj => s0.2 j hj (fun z => nomatch z)⟩
  unfold trunc
  rw [e, bind_ok, if_pos ⟨lt_mono _ (Enc.lt0 a), fun i c hi hc => .inl (by rw [← s.2 i hi]; exact hc)⟩]
  congr 1
  refine List.ext_getElem? fun i => ?_
  rw [List.getElem?_take]
  split
  · exact s.2 i ‹_›
  · rw [List.getElem?_eq_none (by omega)]
theorem sim_def {k l : Nat} {body : SS} {us : List Val} {h : Hv} {n : N ρ} (hl : us.length = k) (hb : BJ (mRet ρ ⟨h, []⟩) ⟨h, []⟩ [] (us.map some ++ List.replicate (l - k) none) body n) : SimO (trunc (sFn k l body) us h) n h := by
  have hb := hb h (Holds.nil Bx.refl)
  cases n with
  | bad => trivial
  | exc c v => trivial
  | ok a =>
    obtain ⟨h', e, s⟩ := hb
    refine trunc_of ?_ s
    rw [sFn_app hl, e]
    rfl
theorem sim_lax {k l : Nat} {body : SS} {us : List Val} {h : Hv} {n : N Unit} (hl : us.length = k) (hb : BJ (mLax ⟨h, []⟩) ⟨h, []⟩ [] (us.map some ++ List.replicate (l - k) none) body n) : SimO (trunc (sFn k l body) us h) n h := by
  have hb := hb h (Holds.nil Bx.refl)
  cases n with
  | bad => trivial
  | exc c v => trivial
  | ok a =>
    obtain ⟨h', e, s⟩ := hb
    refine trunc_of (a := ()) ?_ s
    rw [sFn_app hl]
    rcases e with e | ⟨s', e⟩
    · rw [e]; rfl
    · rw [e]; rfl
end
end Nx

set_option Elab.async false
set_option linter.all false
set_option maxRecDepth 100000
set_option maxHeartbeats 2000000
/-! NxMore: what the printed terms name -/
namespace Nx
open Sx
open Enc (enc arg red)
open ToD (toD)
section
variable {α β γ δ ε ρ : Type} [Enc α] [Enc β] [Enc ρ] {m : Mode δ} {b : Bse} {own : List OI} {sv sv' : Env} {fa fb fe : SE} {na : N α} {n n1 n2 nr : N δ} {f g rest : SS} {ft : ST} {nt : N Bool} {A : As}
theorem ej_eq {n n' : N α} (h : EJ A sv fe n) (e : n = n' := by first | rfl | simp only [N.ok_bind]) : EJ A sv fe n' := e ▸ h
theorem vj_eq {n n' : N α} (h : VJ A sv fe n) (e : n = n' := by first | rfl | simp only [N.ok_bind]) : VJ A sv fe n' := e ▸ h
theorem rj_eq {n n' : N α} (h : RJ A sv fe n) (e : n = n' := by first | rfl | simp only [N.ok_bind]) : RJ A sv fe n' := e ▸ h
theorem ts_eq {n n' : N Bool} (h : TsJ A sv ft n) (e : n = n' := by first | rfl | simp only [N.ok_bind]) : TsJ A sv ft n' := e ▸ h
theorem ls_eq {fs : SA} {n n' : N (List α)} (h : LsJ A sv fs n) (e : n = n' := by first | rfl | simp only [N.ok_bind]) : LsJ A sv fs n' := e ▸ h
theorem ij_eq {fi : SI} {n n' : N (List α)} (h : IJ A sv fi n) (e : n = n' := by first | rfl | simp only [N.ok_bind]) : IJ A sv fi n' := e ▸ h
theorem bj_eq {n n' : N δ} (h : BJ m b own sv f n) (e : n = n') : BJ m b own sv f n' := e ▸ h
theorem holds_take {h : Hv} (k : Nat) (H : Holds b own h) : Holds b (own.take k) h := by
  have : own = own.take k ++ own.drop k := (List.take_append_drop k own).symm
  rw [this] at H
  exact H.cut
theorem bj_part_endC {sp : SPr γ} {a : γ} (k : Nat) (h : sp a sv (own.take k)) : BJ (mPart b sp) b own sv sSkip (.ok a) := fun c H => ⟨sv, c, _, rfl, h, holds_take k H⟩
theorem bj_turn_endC {sp : SPr γ} {a : γ} (k : Nat) (h : sp a sv (own.take k)) : BJ (mTurn ρ b sp) b own sv sSkip (.ok (.nx a)) := fun c H => ⟨sv, c, _, .inl rfl, h, holds_take k H⟩
theorem bj_cntC {sp : SPr γ} {a : γ} (k : Nat) (h : sp a sv (own.take k)) : BJ (mTurn ρ b sp) b own sv sCnt (.ok (.nx a)) := fun c H => ⟨sv, c, _, .inr rfl, h, holds_take k H⟩
theorem bj_brkC {sp : SPr γ} {a : γ} (k : Nat) (h : sp a sv (own.take k)) : BJ (mTurn ρ b sp) b own sv sBrk (.ok (.bk a)) := fun c H => ⟨sv, c, _, rfl, h, holds_take k H⟩
theorem bj_cntC_nf {sp : SPr γ} {a : γ} (k : Nat) (h : sp a sv (own.take k)) : BJ (mTurn ρ b sp).nf b own sv sCnt (.ok (.nx a)) := fun c H => .inr ⟨bj_cntC k h c H, fun _ _ z => nomatch z⟩
theorem bj_brkC_nf {sp : SPr γ} {a : γ} (k : Nat) (h : sp a sv (own.take k)) : BJ (mTurn ρ b sp).nf b own sv sBrk (.ok (.bk a)) := fun c H => .inr ⟨bj_brkC k h c H, fun _ _ z => nomatch z⟩
def D.kind : D → Nat
  | .non => 0
  | .bl _ => 1
  | .int _ => 2
  | .str _ => 3
  | .tup _ => 4
  | .fl _ => 5
theorem o_isi {tb : Nat → Bool} : ∀ h v (a : D), red h v a → Sim (gIsi tb v h) (.ok (tb a.kind)) h := fun h v a e => by
  cases e
  cases a <;> rfl
def mulT {α : Type} (xs : Tu α) (k : Int) : N (Tu α) := .chk (xs.l.isEmpty = false ∧ 0 ≤ k ∧ k ≤ 1000 ∧ xs.l.length ≤ 1000) (.ok ⟨repV k xs.l⟩)
theorem gMulX_tup {vs : List Val} {k : Int} {h : Hv} (c : vs.isEmpty = false ∧ 0 ≤ k ∧ k ≤ 1000 ∧ vs.length ≤ 1000) : gMulX (.tup vs) (.int k) h = .ok (.tup (repV k vs)) h := by
  have c1 : vs ≠ [] := fun z => by rw [z] at c; cases c.1
  show (if vs ≠ [] ∧ 0 ≤ k ∧ k ≤ 1000 ∧ vs.length ≤ 1000 then R.ok (Val.tup (repV k vs)) h else .bad) = _
  rw [if_pos ⟨c1, c.2⟩]
theorem o_mulT : ∀ h (a : Tu α) (b : Int), Sim (gMulX (enc a) (enc b) h) (mulT a b) h := fun h a b => by
  unfold mulT N.chk
  split
  · rename_i c
    have c2 : (a.l.map (enc : α → Val)).isEmpty = false ∧ 0 ≤ b ∧ b ≤ 1000 ∧ (a.l.map (enc : α → Val)).length ≤ 1000 := by rw [List.length_map]; refine ⟨?_, c.2⟩; cases e : a.l <;> simp_all
    show gMulX (.tup (a.l.map enc)) (.int b) h = _
    rw [gMulX_tup c2, rep_map]; rfl
  · trivial
/-! in, without signs in texts -/
theorem o_inL0 [DecidableEq α] [Flat α] : ∀ h v w (a : α) (b : List α), v = enc a → red h w b → Sim (gIn v w h) (.ok (memB a b)) h := fun h v w a b e1 e2 => by
  have := o_inL h v w a b e1 e2
  rw [show gInT v w h = gIn v w h from gInT_isL (neg := false) e2] at this
  exact this
theorem o_notInL0 [DecidableEq α] [Flat α] : ∀ h v w (a : α) (b : List α), v = enc a → red h w b → Sim (gNotIn v w h) (.ok (!memB a b)) h := fun h v w a b e1 e2 => by
  have := o_notInL h v w a b e1 e2
  rw [show gNotInT v w h = gNotIn v w h from gInT_isL (neg := true) e2] at this
  exact this
theorem o_inT0 [DecidableEq α] [Flat α] : ∀ h v w (a : α) (b : Tu α), v = enc a → red h w b → Sim (gIn v w h) (.ok (memB a b.l)) h := fun h v w a b e1 e2 => by
  have := o_inT h v w a b e1 e2
  cases e2
  exact this
theorem o_notInT0 [DecidableEq α] [Flat α] : ∀ h v w (a : α) (b : Tu α), v = enc a → red h w b → Sim (gNotIn v w h) (.ok (!memB a b.l)) h := fun h v w a b e1 e2 => by
  have := o_notInT h v w a b e1 e2
  cases e2
  exact this
/-- xs.index(a) -/
def idxN {α : Type} [DecidableEq α] (xs : List α) (a : α) : N Int := .opt ((xs.findIdx? fun x => decide (x = a)).map fun (k : Nat) => (k : Int))
theorem firstAt_map [DecidableEq α] [Flat α] (a : α) : ∀ xs : List α, firstAt (enc a) (xs.map enc) = xs.findIdx? fun x => decide (x = a)
  | [] => rfl
  | x :: xs => by
    rw [List.map_cons, List.findIdx?_cons]
    show (if Val.eq (enc x) (enc a) = true then some 0 else (firstAt (enc a) (xs.map enc)).map (· + 1)) = _
    rw [Flat.eq, firstAt_map a xs]
theorem ej_index [DecidableEq α] [Flat α] {nl : N (List α)} (h1 : RJ A sv fa nl) (h2 : EJ A sv fb na) : EJ A sv (sMeth mIndex fa (sCons fb sNil)) (nl.bind fun xs => na.bind fun a => idxN xs a) := fun h k => by
  have h1 := h1 h k
  have h2 := h2 h k
  cases nl with
  | bad => trivial
  | exc c v => show sMeth mIndex fa (sCons fb sNil) sv h = _; unfold sMeth; rw [show fa sv h = .exc c v h from h1]; rfl
  | ok xs =>
    obtain ⟨v, e1, a1⟩ := h1
    have a1 : IsL h v (xs.map enc) := a1
    have key : sMeth mIndex fa (sCons fb sNil) sv h = (fb sv h).bind fun x h1 => gItemsL (gIndex x) v h1 := by
      unfold sMeth sCons sNil
      rw [e1, bind_ok, if_pos a1.2]
      cases fb sv h <;> rfl
    show Sim _ (na.bind fun a => idxN xs a) h
    rw [key]
    cases na with
    | bad => trivial
    | exc c v => rw [show fb sv h = .exc c v h from h2]; rfl
    | ok a =>
      rw [show fb sv h = .ok (enc a) h from h2, bind_ok, N.ok_bind]
      unfold gItemsL gItems gIndex idxN
      rw [if_pos a1.2, a1.1]
      simp only
      rw [if_pos ⟨Flat.flat a, all_flat xs⟩, firstAt_map]
      cases xs.findIdx? fun x => decide (x = a) <;> first | rfl | trivial
theorem ej_num {i : Int} {k : Nat → Nat} : EJ A sv (sC (.int i)) (.ok i) := fun _ _ => rfl
end
end Nx

set_option Elab.async false
set_option linter.all false
set_option maxRecDepth 100000
set_option maxHeartbeats 2000000
/-! NxState: defs that change a thing that they are given -/
namespace Nx
open Sx
open Enc (enc arg red)
open ToD (toD)
section
variable {α β γ δ ε ζ ρ σ τ : Type} [Enc α] [Enc β] [Enc γ] [Enc δ] [Enc ε] [Enc ζ] [Enc ρ] {b : Bse} {own : List OI} {k : Nat} {rS : Rep σ} {v : Val} {sv : Env} {fa fb fc fe : SE} {ft fu : ST}
open Classical in
/-- what a def gives back whatever the cells are, if it does so -/
noncomputable def nOf (G : SF) (us : List Val) : N D := if H : ∃ r : D, ∀ h, G us h = .ok (enc r) h then .ok (Classical.choose H) else .bad
theorem nOf_of {G : SF} {us : List Val} {r : D} (e : ∀ h, G us h = .ok (enc r) h) : nOf G us = .ok r := by
  have H : ∃ r : D, ∀ h, G us h = .ok (enc r) h := ⟨r, e⟩
  unfold nOf
  rw [dif_pos H]
  have e1 := Classical.choose_spec H []
  rw [e []] at e1
  injection e1 with e2 e3
  exact congrArg N.ok (D.inj _ _ e2.symm)
theorem nOf_sim {G : SF} {us : List Val} {h : Hv} : SimO (G us h) (nOf G us) h := by
  unfold nOf
  split
  · rename_i H
    exact Classical.choose_spec H h
  · trivial
theorem ej_d5 {A : As} {fd : SE} {na : N α} {nb : N β} {nc : N γ} {nd : N δ} {ne : N ε} {G : SF} {f : α → β → γ → δ → ε → N ζ} (hG : D5 G f) (h1 : VJ A sv fa na) (h2 : VJ A sv fb nb) (h3 : VJ A sv fc nc) (h4 : VJ A sv fd nd) (h5 : VJ A sv fe ne) : EJ A sv (sCall (callF 5 G) (sCons fa (sCons fb (sCons fc (sCons fd (sCons fe sNil)))))) (na.bind fun a => nb.bind fun b => nc.bind fun c => nd.bind fun d => ne.bind fun e => noE (f a b c d e)) := by
  have := ej_call (G := callF 5 G) (op := fun t : α × β × γ × δ × ε × Unit => noE (f t.1 t.2.1 t.2.2.1 t.2.2.2.1 t.2.2.2.2.1)) (fun h vs t r => by
    obtain ⟨v1, r1, rfl, a1, v2, r2, rfl, a2, v3, r3, rfl, a3, v4, r4, rfl, a4, v5, r5, rfl, a5, q1⟩ := r
    cases q1
    exact sim_noX (hG h v1 v2 v3 v4 v5 _ _ _ _ _ a1 a2 a3 a4 a5)) (as_cons h1 (as_cons h2 (as_cons h3 (as_cons h4 (as_cons h5 as_nil)))))
  cases na <;> cases nb <;> cases nc <;> cases nd <;> cases ne <;> exact this
theorem ts_truB {A : As} {n : N Bool} (ha : EJ A sv fa n) : TsJ A sv (sTru fa) n := fun h k => by
  have ha := ha h k
  cases n with
  | bad => trivial
  | exc c v => show sTru fa sv h = _; unfold sTru; rw [show fa sv h = .exc c v h from ha]; rfl
  | ok b => show sTru fa sv h = _; unfold sTru; rw [show fa sv h = .ok (.bl b) h from ha]; rfl
/-- a thing in one cell -/
def rpC {σ : Type} (cl : σ → Cell) : Rep σ where
  p h v s F := ∃ n, v = .ref n ∧ h[n]? = some (cl s) ∧ F = [n]
  fr := fun ⟨n, e1, e2, e3⟩ k => ⟨n, e1, by rw [k n (by rw [e3]; exact List.mem_cons_self)]; exact e2, e3⟩
  lt := fun ⟨n, e1, e2, e3⟩ j hj => by
    rw [e3] at hj
    rw [List.mem_singleton.mp hj]
    exact (List.getElem?_eq_some_iff.mp e2).1
abbrev Own (own : List OI) (k : Nat) (rS : Rep σ) (v : Val) (s : σ) : List OI := own.set k (OI.of rS v s)
/-- an expression that changes the thing at k -/
def ES (b : Bse) (own : List OI) (k : Nat) (rS : Rep σ) (v : Val) (sv : Env) (fe : SE) (m : σ → N (α × σ)) : Prop := ∀ s h, Holds b (Own own k rS v s) h → match m s with
  | .ok p => ∃ h', fe sv h = .ok (enc p.1) h' ∧ Holds b (Own own k rS v p.2) h'
  | .exc c vs => ∃ h', fe sv h = .exc c vs h'
  | .bad => True
def TS' (b : Bse) (own : List OI) (k : Nat) (rS : Rep σ) (v : Val) (sv : Env) (ft : ST) (m : σ → N (Bool × σ)) : Prop := ∀ s h, Holds b (Own own k rS v s) h → match m s with
  | .ok p => ∃ h', ft sv h = .ok p.1 h' ∧ Holds b (Own own k rS v p.2) h'
  | .exc c vs => ∃ h', ft sv h = .exc c vs h'
  | .bad => True
theorem es_pure {n : N α} (h1 : ∀ s, EJ (Holds b (Own own k rS v s)) sv fe n) : ES b own k rS v sv fe fun s => n.bind fun a => .ok (a, s) := fun s h H => by
  have h1 := h1 s h H
  cases n with
  | ok a => exact ⟨h, h1, H⟩
  | exc c vs => exact ⟨h, h1⟩
  | bad => trivial
theorem tS_pure {n : N Bool} (h1 : ∀ s, TsJ (Holds b (Own own k rS v s)) sv ft n) : TS' b own k rS v sv ft fun s => n.bind fun a => .ok (a, s) := fun s h H => by
  have h1 := h1 s h H
  cases n with
  | ok a => exact ⟨h, h1, H⟩
  | exc c vs => exact ⟨h, h1⟩
  | bad => trivial
theorem es_eq {m m' : σ → N (α × σ)} (h1 : ES b own k rS v sv fe m) (e : ∀ s, m s = m' s := by intro s; first | rfl | simp only [N.ok_bind, N.ok_bind2]) : ES b own k rS v sv fe m' := by
  have : m = m' := funext e
  rw [← this]; exact h1
theorem tS_eq {m m' : σ → N (Bool × σ)} (h1 : TS' b own k rS v sv ft m) (e : ∀ s, m s = m' s := by intro s; first | rfl | simp only [N.ok_bind, N.ok_bind2]) : TS' b own k rS v sv ft m' := by
  have : m = m' := funext e
  rw [← this]; exact h1
/-- another type -/
theorem es_as {op : α → N β} {m : σ → N (α × σ)} (hop : ∀ a b, op a = .ok b → enc b = enc a) (hx : ∀ a c v, op a ≠ .exc c v) (h1 : ES b own k rS v sv fe m) : ES b own k rS v sv fe fun s => (m s).bind2 fun a s => (op a).bind fun x => .ok (x, s) := fun s h H => by
  have h1 := h1 s h H
  dsimp only [N.bind2]
  cases e : m s with
  | ok p =>
    rw [e] at h1
    obtain ⟨h', e1, H'⟩ := h1
    rw [N.ok_bind]
    cases e2 : op p.1 with
    | ok x => exact ⟨h', by rw [hop _ _ e2]; exact e1, H'⟩
    | exc c vs => exact absurd e2 (hx _ _ _)
    | bad => trivial
  | exc c vs => rw [e] at h1; exact h1
  | bad => trivial
theorem es_asI {m : σ → N (D × σ)} (h1 : ES b own k rS v sv fe m) : ES b own k rS v sv fe fun s => (m s).bind2 fun a s => (D.asI a).bind fun x => .ok (x, s) := es_as (fun a b e => by cases a <;> cases e <;> rfl) (fun a c v e => by cases a <;> cases e) h1
theorem es_asS {m : σ → N (D × σ)} (h1 : ES b own k rS v sv fe m) : ES b own k rS v sv fe fun s => (m s).bind2 fun a s => (D.asS a).bind fun x => .ok (x, s) := es_as (fun a b e => by cases a <;> cases e <;> rfl) (fun a c v e => by cases a <;> cases e) h1
theorem es_toD [ToD α] {m : σ → N (α × σ)} (h1 : ES b own k rS v sv fe m) : ES b own k rS v sv fe fun s => (m s).bind2 fun a s => .ok (toD a, s) := by
  have := es_as (op := fun a => N.ok (toD a)) (fun a b e => by cases e; exact ToD.eq a) (fun a c v e => by cases e) h1
  exact this
theorem es_bin {g : Val → Val → Hv → R Val} {op : α → β → N γ} {m1 : σ → N (α × σ)} {m2 : α → σ → N (β × σ)} (hop : ∀ h a b, Sim (g (enc a) (enc b) h) (op a b) h) (h1 : ES b own k rS v sv fa m1) (h2 : ∀ a, ES b own k rS v sv fb (m2 a)) :
    ES b own k rS v sv (sBin g fa fb) fun s => (m1 s).bind2 fun a s => (m2 a s).bind2 fun y s => (op a y).bind fun z => .ok (z, s) := fun s h H => by
  have h1 := h1 s h H
  dsimp only [N.bind2]
  cases e : m1 s with
  | bad => trivial
  | exc c vs => rw [e] at h1; obtain ⟨h', e1⟩ := h1; exact ⟨h', by unfold sBin; rw [e1]; rfl⟩
  | ok p =>
    rw [e] at h1
    obtain ⟨h', e1, H'⟩ := h1
    rw [N.ok_bind]
    have h2 := h2 p.1 p.2 h' H'
    cases e2 : m2 p.1 p.2 with
    | bad => trivial
    | exc c vs => rw [e2] at h2; obtain ⟨h2', e3⟩ := h2; exact ⟨h2', by unfold sBin; rw [e1, bind_ok, e3]; rfl⟩
    | ok q =>
      rw [e2] at h2
      obtain ⟨h2', e3, H2⟩ := h2
      rw [N.ok_bind]
      have o := hop h2' p.1 q.1
      have ee : sBin g fa fb sv h = g (enc p.1) (enc q.1) h2' := by unfold sBin; rw [e1, bind_ok, e3]; rfl
      cases e4 : op p.1 q.1 with
      | bad => trivial
      | exc c vs => rw [e4] at o; exact ⟨h2', by rw [ee]; exact o⟩
      | ok z => rw [e4] at o; exact ⟨h2', by rw [ee]; exact o, H2⟩
theorem es_un {g : Val → Hv → R Val} {op : α → N β} {m1 : σ → N (α × σ)} (hop : ∀ h a, Sim (g (enc a) h) (op a) h) (h1 : ES b own k rS v sv fa m1) : ES b own k rS v sv (sUn g fa) fun s => (m1 s).bind2 fun a s => (op a).bind fun z => .ok (z, s) := fun s h H => by
  have h1 := h1 s h H
  dsimp only [N.bind2]
  cases e : m1 s with
  | bad => trivial
  | exc c vs => rw [e] at h1; obtain ⟨h', e1⟩ := h1; exact ⟨h', by unfold sUn; rw [e1]; rfl⟩
  | ok p =>
    rw [e] at h1
    obtain ⟨h', e1, H'⟩ := h1
    rw [N.ok_bind]
    have o := hop h' p.1
    have ee : sUn g fa sv h = g (enc p.1) h' := by unfold sUn; rw [e1]; rfl
    cases e4 : op p.1 with
    | bad => trivial
    | exc c vs => rw [e4] at o; exact ⟨h', by rw [ee]; exact o⟩
    | ok z => rw [e4] at o; exact ⟨h', by rw [ee]; exact o, H'⟩
/-! tests -/
theorem tS_e {m : σ → N (Bool × σ)} (h1 : ES b own k rS v sv fe m) : TS' b own k rS v sv (sTest fe) m := fun s h H => by
  have h1 := h1 s h H
  cases e : m s with
  | bad => trivial
  | exc c vs => rw [e] at h1; obtain ⟨h', e1⟩ := h1; exact ⟨h', by unfold sTest; rw [e1]; rfl⟩
  | ok p => rw [e] at h1; obtain ⟨h', e1, H'⟩ := h1; exact ⟨h', by unfold sTest; rw [e1]; rfl, H'⟩
theorem tS_and {m1 m2 : σ → N (Bool × σ)} (h1 : TS' b own k rS v sv ft m1) (h2 : TS' b own k rS v sv fu m2) : TS' b own k rS v sv (tAnd' ft fu) fun s => (m1 s).bind2 fun x s => if x = true then m2 s else .ok (false, s) := fun s h H => by
  have h1 := h1 s h H
  dsimp only [N.bind2]
  cases e : m1 s with
  | bad => trivial
  | exc c vs => rw [e] at h1; obtain ⟨h', e1⟩ := h1; exact ⟨h', by unfold tAnd'; rw [e1]; rfl⟩
  | ok p =>
    rw [e] at h1
    obtain ⟨h', e1, H'⟩ := h1
    rw [N.ok_bind]
    have ee : tAnd' ft fu sv h = if p.1 = true then fu sv h' else .ok false h' := by unfold tAnd'; rw [e1]; rfl
    rw [ee]
    cases p.1
    · exact ⟨h', rfl, H'⟩
    · exact h2 p.2 h' H'
theorem tS_or {m1 m2 : σ → N (Bool × σ)} (h1 : TS' b own k rS v sv ft m1) (h2 : TS' b own k rS v sv fu m2) : TS' b own k rS v sv (tOr' ft fu) fun s => (m1 s).bind2 fun x s => if x = true then .ok (true, s) else m2 s := fun s h H => by
  have h1 := h1 s h H
  dsimp only [N.bind2]
  cases e : m1 s with
  | bad => trivial
  | exc c vs => rw [e] at h1; obtain ⟨h', e1⟩ := h1; exact ⟨h', by unfold tOr'; rw [e1]; rfl⟩
  | ok p =>
    rw [e] at h1
    obtain ⟨h', e1, H'⟩ := h1
    rw [N.ok_bind]
    have ee : tOr' ft fu sv h = if p.1 = true then .ok true h' else fu sv h' := by unfold tOr'; rw [e1]; rfl
    rw [ee]
    cases p.1
    · exact h2 p.2 h' H'
    · exact ⟨h', rfl, H'⟩
theorem tS_not {m1 : σ → N (Bool × σ)} (h1 : TS' b own k rS v sv ft m1) : TS' b own k rS v sv (tNot' ft) fun s => (m1 s).bind2 fun x s => .ok (!x, s) := fun s h H => by
  have h1 := h1 s h H
  dsimp only [N.bind2]
  cases e : m1 s with
  | bad => trivial
  | exc c vs => rw [e] at h1; obtain ⟨h', e1⟩ := h1; exact ⟨h', by unfold tNot'; rw [e1]; rfl⟩
  | ok p => rw [e] at h1; obtain ⟨h', e1, H'⟩ := h1; exact ⟨h', by unfold tNot'; rw [e1]; rfl, H'⟩
theorem es_if {m0 : σ → N (Bool × σ)} {m1 m2 : σ → N (α × σ)} (h0 : TS' b own k rS v sv ft m0) (h1 : ES b own k rS v sv fa m1) (h2 : ES b own k rS v sv fb m2) : ES b own k rS v sv (sIf ft fa fb) fun s => (m0 s).bind2 fun x s => if x = true then m1 s else m2 s := fun s h H => by
  have h0 := h0 s h H
  dsimp only [N.bind2]
  cases e : m0 s with
  | bad => trivial
  | exc c vs => rw [e] at h0; obtain ⟨h', e1⟩ := h0; exact ⟨h', by unfold sIf; rw [e1]; rfl⟩
  | ok p =>
    rw [e] at h0
    obtain ⟨h', e1, H'⟩ := h0
    rw [N.ok_bind]
    have ee : sIf ft fa fb sv h = if p.1 = true then fa sv h' else fb sv h' := by unfold sIf; rw [e1]; rfl
    rw [ee]
    cases p.1
    · exact h2 p.2 h' H'
    · exact h1 p.2 h' H'
/-! lists of things -/
def LS (b : Bse) (own : List OI) (k : Nat) (rS : Rep σ) (v : Val) (sv : Env) (fs : SA) (m : σ → N (List α × σ)) : Prop := ∀ s h, Holds b (Own own k rS v s) h → match m s with
  | .ok p => ∃ h', fs sv h = .ok (p.1.map enc) h' ∧ Holds b (Own own k rS v p.2) h'
  | .exc c vs => ∃ h', fs sv h = .exc c vs h'
  | .bad => True
theorem lS_nil : LS b own k rS v sv sNil fun s => .ok (([] : List α), s) := fun s h H => ⟨h, rfl, H⟩
theorem lS_cons {fs : SA} {m1 : σ → N (α × σ)} {ms : σ → N (List α × σ)} (h1 : ES b own k rS v sv fa m1) (h2 : LS b own k rS v sv fs ms) : LS b own k rS v sv (sCons fa fs) fun s => (m1 s).bind2 fun a s => (ms s).bind2 fun as s => .ok (a :: as, s) := fun s h H => by
  have h1 := h1 s h H
  dsimp only [N.bind2]
  cases e : m1 s with
  | bad => trivial
  | exc c vs => rw [e] at h1; obtain ⟨h', e1⟩ := h1; exact ⟨h', by unfold sCons; rw [e1]; rfl⟩
  | ok p =>
    rw [e] at h1
    obtain ⟨h', e1, H'⟩ := h1
    rw [N.ok_bind]
    have h2 := h2 p.2 h' H'
    cases e2 : ms p.2 with
    | bad => trivial
    | exc c vs => rw [e2] at h2; obtain ⟨h2', e3⟩ := h2; exact ⟨h2', by unfold sCons; rw [e1, bind_ok, e3]; rfl⟩
    | ok q =>
      rw [e2] at h2
      obtain ⟨h2', e3, H2⟩ := h2
      exact ⟨h2', by unfold sCons; rw [e1, bind_ok, e3]; rfl, H2⟩
theorem es_of_ls {fs : SA} {ms : σ → N (List α × σ)} {F : List Val → Hv → R Val} {op : List α → N β} (hop : ∀ h as, Sim (F (as.map enc) h) (op as) h) (h1 : LS b own k rS v sv fs ms) {fe : SE} (he : ∀ h, fe sv h = (fs sv h).bind F) :
    ES b own k rS v sv fe fun s => (ms s).bind2 fun as s => (op as).bind fun x => .ok (x, s) := fun s h H => by
  have h1 := h1 s h H
  dsimp only [N.bind2]
  rw [he]
  cases e : ms s with
  | bad => trivial
  | exc c vs => rw [e] at h1; obtain ⟨h', e1⟩ := h1; exact ⟨h', by rw [e1]; rfl⟩
  | ok p =>
    rw [e] at h1
    obtain ⟨h', e1, H'⟩ := h1
    rw [N.ok_bind, e1, bind_ok]
    have o := hop h' p.1
    cases e4 : op p.1 with
    | bad => trivial
    | exc c vs => rw [e4] at o; exact ⟨h', o⟩
    | ok z => rw [e4] at o; exact ⟨h', o, H'⟩
theorem es_lst {fs : SA} {ms : σ → N (List α × σ)} (h1 : LS b own k rS v sv fs ms) : ES b own k rS v sv (sLst fs) fun s => (ms s).bind2 fun as s => (szN as).bind fun x => .ok (x, s) :=
  es_of_ls (F := fun vs h1 => if vs.length ≤ 16777216 then .ok (.fl vs) h1 else .bad) (fun h as => by
    unfold szN
    exact sim_chk (s := R.ok (Val.fl (as.map enc)) h) (by simp only [List.length_map]) fun _ => rfl) h1 fun _ => rfl
theorem es_tupD {fs : SA} {ms : σ → N (List D × σ)} (h1 : LS b own k rS v sv fs ms) : ES b own k rS v sv (sTup fs) fun s => (ms s).bind2 fun as s => ((szN as).bind fun as => .ok (D.tup as)).bind fun x => .ok (x, s) :=
  es_of_ls (F := fun vs h1 => if vs.length ≤ 16777216 then .ok (.tup vs) h1 else .bad) (fun h as => by
    unfold szN N.chk
    simp only [List.length_map]
    split
    · show R.ok (Val.tup (as.map D.enc)) h = .ok (Val.tup (D.encs as)) h
      rw [D.encs_map]
    · trivial) h1 fun _ => rfl
theorem es_tuN {fs : SA} {ms : σ → N (List α × σ)} (h1 : LS b own k rS v sv fs ms) : ES b own k rS v sv (sTup fs) fun s => (ms s).bind2 fun as s => ((szN as).bind fun as => .ok (Tu.mk as)).bind fun x => .ok (x, s) :=
  es_of_ls (F := fun vs h1 => if vs.length ≤ 16777216 then .ok (.tup vs) h1 else .bad) (fun h as => by
    unfold szN N.chk
    simp only [List.length_map]
    split
    · rfl
    · trivial) h1 fun _ => rfl
/-- a built-in of one argument -/
theorem es_b1 {g : Val → Hv → R Val} {op : α → N β} {m1 : σ → N (α × σ)} (hop : ∀ h a, Sim (g (enc a) h) (op a) h) (h1 : ES b own k rS v sv fa m1) : ES b own k rS v sv (sCall (c1 g) (sCons fa sNil)) fun s => (m1 s).bind2 fun a s => (op a).bind fun z => .ok (z, s) := fun s h H => by
  have h1 := h1 s h H
  dsimp only [N.bind2]
  cases e : m1 s with
  | bad => trivial
  | exc c vs => rw [e] at h1; obtain ⟨h', e1⟩ := h1; exact ⟨h', by unfold sCall sCons; rw [e1]; rfl⟩
  | ok p =>
    rw [e] at h1
    obtain ⟨h', e1, H'⟩ := h1
    rw [N.ok_bind]
    have o := hop h' p.1
    have ee : sCall (c1 g) (sCons fa sNil) sv h = g (enc p.1) h' := by unfold sCall sCons; rw [e1]; rfl
    cases e4 : op p.1 with
    | bad => trivial
    | exc c vs => rw [e4] at o; exact ⟨h', by rw [ee]; exact o⟩
    | ok z => rw [e4] at o; exact ⟨h', by rw [ee]; exact o, H'⟩
/-! defs that change their first argument -/
def SimS (rS : Rep σ) (v : Val) (h : Hv) (F : List Nat) (r : R Val) (n : N (ρ × σ)) : Prop := match n with
  | .ok p => ∃ h', r = .ok (enc p.1) h' ∧ (∃ F', rS.p h' v p.2 F' ∧ F'.Nodup ∧ ∀ j ∈ F', j ∈ F ∨ h.length ≤ j) ∧ h.length ≤ h'.length ∧ ∀ j, j < h.length → j ∉ F → h'[j]? = h[j]?
  | _ => True
def S0 (rS : Rep σ) (G : SF) (f : σ → N (ρ × σ)) : Prop := ∀ h v s F, rS.p h v s F → F.Nodup → SimS rS v h F (G [v] h) (f s)
def S1 (rS : Rep σ) (G : SF) (f : σ → α → N (ρ × σ)) : Prop := ∀ h v s F a, rS.p h v s F → F.Nodup → SimS rS v h F (G [v, enc a] h) (f s a)
def S2 (rS : Rep σ) (G : SF) (f : σ → α → β → N (ρ × σ)) : Prop := ∀ h v s F a b, rS.p h v s F → F.Nodup → SimS rS v h F (G [v, enc a, enc b] h) (f s a b)
def S3 (rS : Rep σ) (G : SF) (f : σ → α → β → γ → N (ρ × σ)) : Prop := ∀ h v s F a b c, rS.p h v s F → F.Nodup → SimS rS v h F (G [v, enc a, enc b, enc c] h) (f s a b c)
theorem own_get {i : Nat} {o : OI} (hk : k < own.length) : (Own own k rS v s)[k]? = some (OI.of rS v s) := by rw [List.getElem?_set_self hk]
theorem holds_sim {s : σ} {h : Hv} {r : R Val} {n : N (ρ × σ)} (hk : k < own.length) (H : Holds b (Own own k rS v s) h) (q : ∀ F, rS.p h v s F → F.Nodup → SimS rS v h F r n) : match noE n with
    | .ok p => ∃ h', noX r = .ok (enc p.1) h' ∧ Holds b (Own own k rS v p.2) h'
    | .exc c vs => ∃ h', noX r = .exc c vs h'
    | .bad => True := by
  cases n with
  | bad => trivial
  | exc c vs => trivial
  | ok p =>
    have hg : (Own own k rS v s)[k]? = some (OI.of rS v s) := by rw [List.getElem?_set_self hk]
    have H0 := H
    obtain ⟨_, F0, P0, nd0, _⟩ := H0
    obtain ⟨A, B, C, eF, pb, _⟩ := OPs.at hg P0
    have ndB : B.Nodup := by rw [eF] at nd0; exact (List.nodup_append.mp (List.nodup_append.mp nd0).1).2.1
    obtain ⟨h', e, F1, F2, F3⟩ := q B pb ndB
    refine ⟨h', by rw [e]; rfl, ?_⟩
    have := H.put (o' := OI.of rS v p.2) hg (h' := h') (fun B2 p2 nd2 => by
      obtain ⟨h2, e2, ⟨F', x1, x2, x3⟩, x4, x5⟩ := q B2 p2 nd2
      have : h2 = h' := by rw [e] at e2; cases e2; rfl
      subst this
      exact ⟨F', x1, x2, x3, x5⟩) F2
    rw [show (Own own k rS v s).set k (OI.of rS v p.2) = Own own k rS v p.2 from List.set_set ..] at this
    exact this
theorem es_s0 {i : Nat} {G : SF} {f : σ → N (ρ × σ)} (hG : S0 rS G f) (hkb : Nat.blt k own.length = true) (e : sv[i]? = some (some v)) : ES b own k rS v sv (sCall (callF 1 G) (sCons (sVar i) sNil)) fun s => noE (f s) := fun s h H => by
  have hk : k < own.length := by simpa [Nat.blt_eq] using hkb
  have ee : sCall (callF 1 G) (sCons (sVar i) sNil) sv h = noX (G [v] h) := by unfold sCall sCons sVar; rw [e]; rfl
  rw [ee]
  exact holds_sim hk H fun F p nd => hG h v s F p nd
theorem es_s1 {i : Nat} {G : SF} {f : σ → α → N (ρ × σ)} {m1 : σ → N (α × σ)} (hG : S1 rS G f) (hkb : Nat.blt k own.length = true) (e : sv[i]? = some (some v)) (h1 : ES b own k rS v sv fa m1) : ES b own k rS v sv (sCall (callF 2 G) (sCons (sVar i) (sCons fa sNil))) fun s => (m1 s).bind2 fun a s => noE (f s a) := fun s h H => by
  have hk : k < own.length := by simpa [Nat.blt_eq] using hkb
  have h1 := h1 s h H
  dsimp only [N.bind2]
  have ev : sVar i sv h = .ok v h := by unfold sVar; rw [e]
  cases e1 : m1 s with
  | bad => trivial
  | exc c vs => rw [e1] at h1; obtain ⟨h', e2⟩ := h1; exact ⟨h', by unfold sCall sCons; rw [ev, bind_ok]; rw [e2]; rfl⟩
  | ok p =>
    rw [e1] at h1
    obtain ⟨h', e2, H'⟩ := h1
    have ee : sCall (callF 2 G) (sCons (sVar i) (sCons fa sNil)) sv h = noX (G [v, enc p.1] h') := by unfold sCall sCons; rw [ev, bind_ok]; rw [e2]; rfl
    rw [ee, N.ok_bind]
    exact holds_sim hk H' fun F q nd => hG h' v p.2 F p.1 q nd
theorem es_s2 {i : Nat} {G : SF} {f : σ → α → β → N (ρ × σ)} {m1 : σ → N (α × σ)} {m2 : σ → N (β × σ)} (hG : S2 rS G f) (hkb : Nat.blt k own.length = true) (e : sv[i]? = some (some v)) (h1 : ES b own k rS v sv fa m1) (h2 : ES b own k rS v sv fb m2) : ES b own k rS v sv (sCall (callF 3 G) (sCons (sVar i) (sCons fa (sCons fb sNil)))) fun s => (m1 s).bind2 fun x s => (m2 s).bind2 fun y s => noE (f s x y) := fun s h H => by
  have hk : k < own.length := by simpa [Nat.blt_eq] using hkb
  have h1 := h1 s h H
  dsimp only [N.bind2]
  have ev : sVar i sv h = .ok v h := by unfold sVar; rw [e]
  cases e1 : m1 s with
  | bad => trivial
  | exc c vs => rw [e1] at h1; obtain ⟨h', e2⟩ := h1; exact ⟨h', by unfold sCall sCons; rw [ev, bind_ok]; rw [e2]; rfl⟩
  | ok p =>
    rw [e1] at h1
    obtain ⟨h', e2, H'⟩ := h1
    rw [N.ok_bind]
    have h2 := h2 p.2 h' H'
    cases e3 : m2 p.2 with
    | bad => trivial
    | exc c vs => rw [e3] at h2; obtain ⟨h2', e4⟩ := h2; exact ⟨h2', by unfold sCall sCons; rw [ev, bind_ok]; rw [e2, bind_ok]; rw [e4]; rfl⟩
    | ok q =>
      rw [e3] at h2
      obtain ⟨h2', e4, H2⟩ := h2
      have ee : sCall (callF 3 G) (sCons (sVar i) (sCons fa (sCons fb sNil))) sv h = noX (G [v, enc p.1, enc q.1] h2') := by unfold sCall sCons; rw [ev, bind_ok]; rw [e2, bind_ok]; rw [e4]; rfl
      rw [ee, N.ok_bind]
      exact holds_sim hk H2 fun F z nd => hG h2' v q.2 F p.1 q.1 z nd
theorem es_s3 {i : Nat} {G : SF} {f : σ → α → β → γ → N (ρ × σ)} {m1 : σ → N (α × σ)} {m2 : σ → N (β × σ)} {m3 : σ → N (γ × σ)} (hG : S3 rS G f) (hkb : Nat.blt k own.length = true) (e : sv[i]? = some (some v)) (h1 : ES b own k rS v sv fa m1) (h2 : ES b own k rS v sv fb m2) (h3 : ES b own k rS v sv fc m3) :
    ES b own k rS v sv (sCall (callF 4 G) (sCons (sVar i) (sCons fa (sCons fb (sCons fc sNil))))) fun s => (m1 s).bind2 fun x s => (m2 s).bind2 fun y s => (m3 s).bind2 fun z s => noE (f s x y z) := fun s h H => by
  have hk : k < own.length := by simpa [Nat.blt_eq] using hkb
  have h1 := h1 s h H
  dsimp only [N.bind2]
  have ev : sVar i sv h = .ok v h := by unfold sVar; rw [e]
  cases e1 : m1 s with
  | bad => trivial
  | exc c vs => rw [e1] at h1; obtain ⟨h', e2⟩ := h1; exact ⟨h', by unfold sCall sCons; rw [ev, bind_ok]; rw [e2]; rfl⟩
  | ok p =>
    rw [e1] at h1
    obtain ⟨h', e2, H'⟩ := h1
    rw [N.ok_bind]
    have h2 := h2 p.2 h' H'
    cases e3 : m2 p.2 with
    | bad => trivial
    | exc c vs => rw [e3] at h2; obtain ⟨h2', e4⟩ := h2; exact ⟨h2', by unfold sCall sCons; rw [ev, bind_ok]; rw [e2, bind_ok]; rw [e4]; rfl⟩
    | ok q =>
      rw [e3] at h2
      obtain ⟨h2', e4, H2⟩ := h2
      rw [N.ok_bind]
      have h3 := h3 q.2 h2' H2
      cases e5 : m3 q.2 with
      | bad => trivial
      | exc c vs => rw [e5] at h3; obtain ⟨h3', e6⟩ := h3; exact ⟨h3', by unfold sCall sCons; rw [ev, bind_ok]; rw [e2, bind_ok]; rw [e4, bind_ok]; rw [e6]; rfl⟩
      | ok t =>
        rw [e5] at h3
        obtain ⟨h3', e6, H3⟩ := h3
        have ee : sCall (callF 4 G) (sCons (sVar i) (sCons fa (sCons fb (sCons fc sNil)))) sv h = noX (G [v, enc p.1, enc q.1, enc t.1] h3') := by unfold sCall sCons; rw [ev, bind_ok]; rw [e2, bind_ok]; rw [e4, bind_ok]; rw [e6]; rfl
        rw [ee, N.ok_bind]
        exact holds_sim hk H3 fun F z nd => hG h3' v t.2 F p.1 q.1 t.1 z nd
/-! comprehensions -/
def lcS {α β σ : Type} (t : α → N Bool) (f : α → σ → N (β × σ)) : Nat → List α → σ → N (List β × σ)
  | _, [], s => .ok ([], s)
  | n, x :: xs, s => (t x).bind fun k => if k = true then (f x s).bind2 fun y s => .chk (n < 16777216) ((lcS t f (n + 1) xs s).bind2 fun ys s => .ok (y :: ys, s)) else lcS t f n xs s
def IS (b : Bse) (own : List OI) (k : Nat) (rS : Rep σ) (v : Val) (sv : Env) (fi : SI) (m : σ → N (List α × σ)) : Prop := ∀ s h, Holds b (Own own k rS v s) h → match m s with
  | .ok p => ∃ h', fi sv h = .ok (p.1.map enc) h' ∧ Holds b (Own own k rS v p.2) h'
  | .exc c vs => ∃ h', fi sv h = .exc c vs h'
  | .bad => True
theorem is_pure {fi : SI} {n : N (List α)} (h1 : ∀ s, IJ (Holds b (Own own k rS v s)) sv fi n) : IS b own k rS v sv fi fun s => n.bind fun a => .ok (a, s) := fun s h H => by
  have h1 := h1 s h H
  cases n with
  | ok a => exact ⟨h, h1, H⟩
  | exc c vs => exact ⟨h, h1⟩
  | bad => trivial
theorem is_range1 {m : σ → N (Int × σ)} (h1 : ES b own k rS v sv fe m) : IS b own k rS v sv (iRange1 fe) fun s => (m s).bind2 fun j s => (range1N j).bind fun xs => .ok (xs, s) := fun s h H => by
  have h1 := h1 s h H
  dsimp only [N.bind2]
  cases e : m s with
  | bad => trivial
  | exc c vs => rw [e] at h1; obtain ⟨h', e1⟩ := h1; exact ⟨h', by unfold iRange1; rw [e1]; rfl⟩
  | ok p =>
    rw [e] at h1
    obtain ⟨h', e1, H'⟩ := h1
    rw [N.ok_bind]
    have ee : iRange1 fe sv h = if -4611686018427387904 ≤ p.1 ∧ p.1 < 4611686018427387904 then .ok (rangeV 0 p.1.toNat) h' else .bad := by unfold iRange1; rw [e1]; rfl
    rw [ee]
    unfold range1N N.chk
    by_cases c : -4611686018427387904 ≤ p.1 ∧ p.1 < 4611686018427387904
    · rw [if_pos c, if_pos c, range_enc]
      exact ⟨h', rfl, H'⟩
    · rw [if_neg c, if_neg c]; trivial
theorem es_lc {ow : List Nat} {it : SI} {gt : SG} {up : α → Env → Env} {m0 : σ → N (List α × σ)} {t : α → N Bool} {ff : α → σ → N (β × σ)} (hi : IS b own k rS v sv it m0) (hg : Tgt gt up) (ht : ∀ x s, TsJ (Holds b (Own own k rS v s)) (up x (wipeE sv ow)) ft (t x)) (he : ∀ x, ES b own k rS v (up x (wipeE sv ow)) fe (ff x)) :
    ES b own k rS v sv (sLc ow it gt ft fe) fun s => (m0 s).bind2 fun xs s => noE (lcS t ff 0 xs s) := fun s h H => by
  have hi := hi s h H
  dsimp only [N.bind2]
  cases e0 : m0 s with
  | bad => trivial
  | exc c vs => rw [e0] at hi; obtain ⟨h', e1⟩ := hi; exact ⟨h', by unfold sLc; rw [e1]; rfl⟩
  | ok p =>
    rw [e0] at hi
    obtain ⟨h', e1, H'⟩ := hi
    rw [N.ok_bind]
    have ee : sLc ow it gt ft fe sv h = noX ((sLcL gt ft fe (wipeE sv ow) 0 (p.1.map enc) h').bind fun ys h2 => .ok (.fl ys) h2) := by unfold sLc; rw [e1]; rfl
    rw [ee]
    have key : ∀ (xs : List α) (j : Nat) (s : σ) (h : Hv), Holds b (Own own k rS v s) h → match lcS t ff j xs s with
        | .ok q => ∃ h', sLcL gt ft fe (wipeE sv ow) j (xs.map enc) h = .ok (q.1.map enc) h' ∧ Holds b (Own own k rS v q.2) h'
        | _ => True := by
      intro xs
      induction xs with
      | nil => intro j s h H; exact ⟨h, rfl, H⟩
      | cons x xs ih =>
        intro j s h H
        rw [List.map_cons]
        unfold lcS
        have ht := ht x s h H
        cases e2 : t x with
        | bad => trivial
        | exc c v => trivial
        | ok kk =>
          rw [e2] at ht
          have hs : sLcL gt ft fe (wipeE sv ow) j (enc x :: xs.map enc) h = if kk = true then (fe (up x (wipeE sv ow)) h).bind fun y h3 => if j < 16777216 then (sLcL gt ft fe (wipeE sv ow) (j + 1) (xs.map enc) h3).bind fun ys h4 => .ok (y :: ys) h4 else .bad else sLcL gt ft fe (wipeE sv ow) j (xs.map enc) h := by
            conv => lhs; unfold sLcL
            rw [hg x _ h, bind_ok, show ft (up x (wipeE sv ow)) h = .ok kk h from ht, bind_ok]
          rw [hs, N.ok_bind]
          cases kk with
          | false => exact ih j s h H
          | true =>
            rw [if_pos rfl, if_pos rfl]
            have he := he x s h H
            dsimp only [N.bind2]
            cases e3 : ff x s with
            | bad => trivial
            | exc c v => trivial
            | ok y =>
              rw [e3] at he
              obtain ⟨h3, e4, H3⟩ := he
              rw [e4, bind_ok, N.ok_bind]
              unfold N.chk
              by_cases hj : j < 16777216
              · rw [if_pos hj, if_pos hj]
                have ih := ih (j + 1) y.2 h3 H3
                cases e5 : lcS t ff (j + 1) xs y.2 with
                | bad => trivial
                | exc c v => trivial
                | ok ys =>
                  rw [e5] at ih
                  obtain ⟨h4, e6, H4⟩ := ih
                  rw [e6, bind_ok]
                  exact ⟨h4, rfl, H4⟩
              · rw [if_neg hj]; trivial
    have := key p.1 0 p.2 h' H'
    cases e2 : lcS t ff 0 p.1 p.2 with
    | bad => trivial
    | exc c v => trivial
    | ok ys =>
      rw [e2] at this
      obtain ⟨h4, e6, H4⟩ := this
      exact ⟨h4, by rw [e6]; rfl, H4⟩
/-! statements -/
variable {χ : Type} {m : Mode χ} {rest f g : SS} {s : σ}
theorem own_self (hk : own[k]? = some (OI.of rS v s)) : Own own k rS v s = own := by
  have hl := (List.getElem?_eq_some_iff.mp hk).1
  refine List.ext_getElem? fun j => ?_
  by_cases e : k = j
  · subst e; rw [List.getElem?_set_self hl, hk]
  · rw [List.getElem?_set_ne e]
theorem bs_set {i : Nat} {ma : σ → N (α × σ)} {kk : α → σ → N χ} (hk : own[k]? = some (OI.of rS v s)) (he : ES b own k rS v sv fe ma) (h2 : ∀ a s', BJ m b (own.set k (OI.of rS v s')) (sv.set i (some (enc a))) rest (kk a s')) : BJ m b own sv (sSeq (sSet i fe) rest) ((ma s).bind2 kk) := fun h H => by
  have he := he s h (by rw [own_self hk]; exact H)
  dsimp only [N.bind2]
  cases e : ma s with
  | bad => exact m.bad _
  | exc c vs =>
    rw [e] at he; obtain ⟨h', e1⟩ := he
    have e2 : sSeq (sSet i fe) rest sv h = .exc c vs h' := by unfold sSeq sSet; rw [e1]; rfl
    rw [e2]; exact m.exc _ _ _
  | ok p =>
    rw [e] at he; obtain ⟨h', e1, H'⟩ := he
    have e2 : sSeq (sSet i fe) rest sv h = rest (sv.set i (some (enc p.1))) h' := by unfold sSeq sSet; rw [e1]; rfl
    rw [e2]
    exact h2 p.1 p.2 h' H'
theorem bs_expr {ma : σ → N (α × σ)} {kk : α → σ → N χ} (hk : own[k]? = some (OI.of rS v s)) (he : ES b own k rS v sv fe ma) (h2 : ∀ a s', BJ m b (own.set k (OI.of rS v s')) sv rest (kk a s')) : BJ m b own sv (sSeq (sExpr fe) rest) ((ma s).bind2 kk) := fun h H => by
  have he := he s h (by rw [own_self hk]; exact H)
  dsimp only [N.bind2]
  cases e : ma s with
  | bad => exact m.bad _
  | exc c vs =>
    rw [e] at he; obtain ⟨h', e1⟩ := he
    have e2 : sSeq (sExpr fe) rest sv h = .exc c vs h' := by unfold sSeq sExpr; rw [e1]; rfl
    rw [e2]; exact m.exc _ _ _
  | ok p =>
    rw [e] at he; obtain ⟨h', e1, H'⟩ := he
    have e2 : sSeq (sExpr fe) rest sv h = rest sv h' := by unfold sSeq sExpr; rw [e1]; rfl
    rw [e2]
    exact h2 p.1 p.2 h' H'
theorem bs_ite {mt : σ → N (Bool × σ)} {n1 n2 : σ → N χ} (hk : own[k]? = some (OI.of rS v s)) (ht : TS' b own k rS v sv ft mt) (h1 : ∀ s', BJ m b (own.set k (OI.of rS v s')) sv f (n1 s')) (h2 : ∀ s', BJ m b (own.set k (OI.of rS v s')) sv g (n2 s')) : BJ m b own sv (sIte ft f g) ((mt s).bind2 fun x s' => if x = true then n1 s' else n2 s') := fun h H => by
  have ht := ht s h (by rw [own_self hk]; exact H)
  dsimp only [N.bind2]
  cases e : mt s with
  | bad => exact m.bad _
  | exc c vs =>
    rw [e] at ht; obtain ⟨h', e1⟩ := ht
    have e2 : sIte ft f g sv h = .exc c vs h' := by unfold sIte; rw [e1]; rfl
    rw [e2]; exact m.exc _ _ _
  | ok p =>
    rw [e] at ht; obtain ⟨h', e1, H'⟩ := ht
    have e2 : sIte ft f g sv h = if p.1 = true then f sv h' else g sv h' := by unfold sIte; rw [e1]; rfl
    rw [e2, N.ok_bind]
    cases p.1
    · exact h2 p.2 h' H'
    · exact h1 p.2 h' H'
theorem bs_ifnf {mt : σ → N (Bool × σ)} {n1 n2 : σ → N χ} (hk : own[k]? = some (OI.of rS v s)) (ht : TS' b own k rS v sv ft mt) (h1 : ∀ s', BJ m.nf b (own.set k (OI.of rS v s')) sv f (n1 s')) (h2 : ∀ s', BJ m b (own.set k (OI.of rS v s')) sv (sSeq g rest) (n2 s')) : BJ m b own sv (sSeq (sIte ft f g) rest) ((mt s).bind2 fun x s' => if x = true then n1 s' else n2 s') := fun h H => by
  have ht := ht s h (by rw [own_self hk]; exact H)
  dsimp only [N.bind2]
  cases e : mt s with
  | bad => exact m.bad _
  | exc c vs =>
    rw [e] at ht; obtain ⟨h', e1⟩ := ht
    have e2 : sSeq (sIte ft f g) rest sv h = .exc c vs h' := by unfold sSeq sIte; rw [e1]; rfl
    rw [e2]; exact m.exc _ _ _
  | ok p =>
    rw [e] at ht; obtain ⟨h', e1, H'⟩ := ht
    have e2 : sSeq (sIte ft f g) rest sv h = if p.1 = true then sSeq f rest sv h' else sSeq g rest sv h' := by unfold sSeq sIte; rw [e1]; cases p.1 <;> rfl
    rw [e2, N.ok_bind]
    cases p.1
    · exact h2 p.2 h' H'
    · show m.res (sSeq f rest sv h') (n1 p.2)
      rcases h1 p.2 h' H' with z | ⟨z1, z2⟩
      · exact m.of_bad z
      · have e2 : sSeq f rest sv h' = f sv h' := seq_nonx z2
        rw [e2]; exact z1
theorem bs_app {i j : Nat} {w : Val} {xs : List α} {ma : σ → N (α × σ)} {kk : List α → σ → N χ} (hk : own[k]? = some (OI.of rS v s)) (e : sv[i]? = some (some w)) (hj : own[j]? = some (OI.of (rpL (rpF α)) w xs)) (hne : k ≠ j) (he : ES b own k rS v sv fe ma)
    (h2 : ∀ ys s', BJ m b ((own.set k (OI.of rS v s')).set j (OI.of (rpL (rpF α)) w ys)) sv rest (kk ys s')) : BJ m b own sv (sSeq (sExpr (sMeth mAppend (sVar i) (sCons fe sNil))) rest) ((ma s).bind2 fun a s' => (appN xs a).bind fun ys => kk ys s') := fun h H => by
  have he := he s h (by rw [own_self hk]; exact H)
  have e0 : ∀ h, sVar i sv h = .ok w h := fun h => by unfold sVar; rw [e]
  obtain ⟨n, e1, e2, _⟩ := own_change (ys := xs) (i := i) H hj
  subst e1
  have hL : (Val.ref n).isL h = true := by rw [isL_ref', e2]
  have key : sMeth mAppend (sVar i) (sCons fe sNil) sv h = (sCons fe sNil sv h).bind fun vs h2 => mAppend (.ref n) vs h2 := by
    unfold sMeth; rw [e0, bind_ok, if_pos hL]
  dsimp only [N.bind2]
  cases em : ma s with
  | bad => exact m.bad _
  | exc c vs =>
    rw [em] at he; obtain ⟨h', e3⟩ := he
    have e2 : sSeq (sExpr (sMeth mAppend (sVar i) (sCons fe sNil))) rest sv h = .exc c vs h' := by unfold sSeq sExpr; rw [key]; unfold sCons; rw [e3]; rfl
    rw [e2]; exact m.exc _ _ _
  | ok p =>
    rw [em] at he; obtain ⟨h', e3, H'⟩ := he
    have hj' : (own.set k (OI.of rS v p.2))[j]? = some (OI.of (rpL (rpF α)) (.ref n) xs) := by rw [List.getElem?_set_ne hne]; exact hj
    show m.res _ ((appN xs p.1).bind fun ys => kk ys p.2)
    unfold appN N.chk
    by_cases hl : xs.length < 16777216
    · rw [if_pos hl]
      obtain ⟨n', e1', e4, H2⟩ := own_change (ys := xs ++ [p.1]) (i := i) H' hj'
      cases e1'
      have ap : mAppend (.ref n) [enc p.1] h' = .ok .non (h'.set n (.lst ((xs ++ [p.1]).map enc))) := by
        show onCell (lApp (enc p.1)) (.ref n) h' = _
        unfold onCell
        simp only [e4]
        unfold lApp
        rw [List.length_map, if_pos hl, List.map_append]
        rfl
      have e5 : sSeq (sExpr (sMeth mAppend (sVar i) (sCons fe sNil))) rest sv h = rest sv (h'.set n (.lst ((xs ++ [p.1]).map enc))) := by
        unfold sSeq sExpr; rw [key]; unfold sCons sNil; rw [e3, bind_ok, bind_ok, bind_ok, ap]; rfl
      rw [e5]
      exact h2 _ _ _ H2
    · rw [if_neg hl]; exact m.bad _
/-- a value and the thing given back -/
def mRetS (ρ : Type) [Enc ρ] (b : Bse) (rS : Rep σ) (v : Val) : Mode (ρ × σ) where
  res r n := match n with
    | .ok p => ∃ h, r = .ok (.rt (enc p.1)) h ∧ Holds b [OI.of rS v p.2] h
    | .exc c v => ∃ h, r = .exc c v h
    | .bad => True
  bad _ := trivial
  exc _ _ _ := ⟨_, rfl⟩
def mTurnS (ρ : Type) [Enc ρ] (b : Bse) (rS : Rep σ) (v : Val) (sp : SPr γ) : Mode (Ctl (ρ × σ) γ) where
  res r n := match n with
    | .ok (.nx a) => ∃ s h os, (r = .ok (.nx s) h ∨ r = .ok (.ct s) h) ∧ sp a s os ∧ Holds b os h
    | .ok (.bk a) => ∃ s h os, r = .ok (.bk s) h ∧ sp a s os ∧ Holds b os h
    | .ok (.rt p) => ∃ h, r = .ok (.rt (enc p.1)) h ∧ Holds b [OI.of rS v p.2] h
    | .exc c v => ∃ h, r = .exc c v h
    | .bad => True
  bad _ := trivial
  exc _ _ _ := ⟨_, rfl⟩
class RetS (m : Mode χ) (ρ : outParam Type) [Enc ρ] (σ : outParam Type) (b : outParam Bse) (rS : outParam (Rep σ)) (v : outParam Val) where
  rt : ρ → σ → χ
  ok : ∀ a s h, Holds b [OI.of rS v s] h → m.res (.ok (.rt (enc a)) h) (.ok (rt a s))
instance : RetS (mRetS ρ b rS v) ρ σ b rS v := ⟨fun a s => (a, s), fun a s h H => ⟨h, rfl, H⟩⟩
instance {sp : SPr γ} : RetS (mTurnS ρ b rS v sp) ρ σ b rS v := ⟨fun a s => .rt (a, s), fun a s h H => ⟨h, rfl, H⟩⟩
instance [r : RetS m ρ σ b rS v] : RetS m.nf ρ σ b rS v := ⟨r.rt, fun a s h H => .inr ⟨r.ok a s h H, fun _ _ z => nomatch z⟩⟩
theorem holds_one {h : Hv} {s : σ} (hk : own[0]? = some (OI.of rS v s)) (H : Holds b own h) : Holds b [OI.of rS v s] h := by
  cases own with
  | nil => simp at hk
  | cons o os => simp at hk; subst hk; exact H.cut (os := [_])
theorem bs_ret [r : RetS m ρ σ b rS v] {ma : σ → N (ρ × σ)} (hk : own[0]? = some (OI.of rS v s)) (he : ES b own 0 rS v sv fe ma) : BJ m b own sv (sRet fe) ((ma s).bind2 fun a s => .ok (r.rt a s)) := fun h H => by
  have he := he s h (by rw [own_self hk]; exact H)
  dsimp only [N.bind2]
  cases e : ma s with
  | bad => exact m.bad _
  | exc c vs =>
    rw [e] at he; obtain ⟨h', e1⟩ := he
    have e2 : sRet fe sv h = .exc c vs h' := by unfold sRet; rw [e1]; rfl
    rw [e2]; exact m.exc _ _ _
  | ok p =>
    rw [e] at he; obtain ⟨h', e1, H'⟩ := he
    have e2 : sRet fe sv h = .ok (.rt (enc p.1)) h' := by unfold sRet; rw [e1]; rfl
    rw [e2]
    refine r.ok p.1 p.2 h' (holds_one ?_ H')
    rw [List.getElem?_set_self (List.getElem?_eq_some_iff.mp hk).1]
/-! whole defs -/
theorem sim_defS {l n : Nat} {body : SS} {us : List Val} {h : Hv} {F : List Nat} {nn : N (ρ × σ)} (hl : us.length = n) (p : rS.p h v s F) (nd : F.Nodup) (hb : BJ (mRetS ρ ⟨h, F⟩ rS v) ⟨h, F⟩ [OI.of rS v s] (us.map some ++ List.replicate (l - n) none) body nn) : SimS rS v h F (sFn n l body us h) nn := by
  have hb := hb h ⟨Bx.refl, F, ⟨F, [], by simp, p, rfl⟩, nd, fun j hj => .inl hj⟩
  cases nn with
  | bad => trivial
  | exc c v => trivial
  | ok q =>
    obtain ⟨h', e, s', F', P, nd', lo⟩ := hb
    obtain ⟨F1, F2, e1, p1, e2⟩ := P
    cases e2
    rw [List.append_nil] at e1
    subst e1
    refine ⟨h', ?_, ⟨F', p1, nd', lo⟩, s'.1, fun j hj hx => s'.2 j hj hx⟩
    rw [sFn_app hl, e]
    rfl
theorem e2 {g : Val → Val → Hv → R Val} {op : α → β → N γ} (o : ∀ h v w a b, red h v a → red h w b → Sim (g v w h) (op a b) h) : ∀ h a b, Sim (g (enc a) (enc b) h) (op a b) h := fun h a b => o h _ _ a b (Enc.red_arg (Enc.arg_enc a)) (Enc.red_arg (Enc.arg_enc b))
theorem e1 {g : Val → Hv → R Val} {op : α → N β} (o : ∀ h v a, red h v a → Sim (g v h) (op a) h) : ∀ h a, Sim (g (enc a) h) (op a) h := fun h a => o h _ a (Enc.red_arg (Enc.arg_enc a))
theorem es_b2 {g : Val → Val → Hv → R Val} {op : α → β → N γ} {m1 : σ → N (α × σ)} {m2 : α → σ → N (β × σ)} (hop : ∀ h a b, Sim (g (enc a) (enc b) h) (op a b) h) (h1 : ES b own k rS v sv fa m1) (h2 : ∀ a, ES b own k rS v sv fb (m2 a)) :
    ES b own k rS v sv (sCall (c2 g) (sCons fa (sCons fb sNil))) fun s => (m1 s).bind2 fun a s => (m2 a s).bind2 fun y s => (op a y).bind fun z => .ok (z, s) := fun s h H => by
  have := es_bin hop h1 h2 s h H
  have ee : sCall (c2 g) (sCons fa (sCons fb sNil)) sv h = sBin g fa fb sv h := by
    unfold sCall sCons sBin
    cases fa sv h with
    | ok x h1 =>
      rw [bind_ok, bind_ok]
      cases fb sv h1 <;> rfl
    | exc _ _ _ => rfl
    | bad => rfl
  rw [ee]; exact this
/-- tuples of two, of three, of four -/
theorem es_p2 {m1 : σ → N (α × σ)} {m2 : σ → N (β × σ)} (h1 : ES b own k rS v sv fa m1) (h2 : ES b own k rS v sv fb m2) :
    ES b own k rS v sv (sTup (sCons fa (sCons fb sNil))) fun s => (m1 s).bind2 fun x s => (m2 s).bind2 fun y s => .ok (P2.mk x y, s) := fun s h H => by
  have h1 := h1 s h H
  dsimp only [N.bind2]
  cases e1 : m1 s with
  | bad => trivial
  | exc c vs => rw [e1] at h1; obtain ⟨h', e2⟩ := h1; exact ⟨h', by unfold sTup sCons; rw [e2]; rfl⟩
  | ok p =>
    rw [e1] at h1
    obtain ⟨h', e2, H'⟩ := h1
    rw [N.ok_bind]
    have h2 := h2 p.2 h' H'
    cases e3 : m2 p.2 with
    | bad => trivial
    | exc c vs => rw [e3] at h2; obtain ⟨h2', e4⟩ := h2; exact ⟨h2', by unfold sTup sCons; rw [e2, bind_ok, e4]; rfl⟩
    | ok q =>
      rw [e3] at h2
      obtain ⟨h2', e4, H2⟩ := h2
      exact ⟨h2', by unfold sTup sCons; rw [e2, bind_ok, e4]; rfl, H2⟩
theorem es_p3 {m1 : σ → N (α × σ)} {m2 : σ → N (β × σ)} {m3 : σ → N (γ × σ)} (h1 : ES b own k rS v sv fa m1) (h2 : ES b own k rS v sv fb m2) (h3 : ES b own k rS v sv fc m3) :
    ES b own k rS v sv (sTup (sCons fa (sCons fb (sCons fc sNil)))) fun s => (m1 s).bind2 fun x s => (m2 s).bind2 fun y s => (m3 s).bind2 fun z s => .ok (P3.mk x y z, s) := fun s h H => by
  have h1 := h1 s h H
  dsimp only [N.bind2]
  cases e1 : m1 s with
  | bad => trivial
  | exc c vs => rw [e1] at h1; obtain ⟨h', e2⟩ := h1; exact ⟨h', by unfold sTup sCons; rw [e2]; rfl⟩
  | ok p =>
    rw [e1] at h1
    obtain ⟨h', e2, H'⟩ := h1
    rw [N.ok_bind]
    have h2 := h2 p.2 h' H'
    cases e3 : m2 p.2 with
    | bad => trivial
    | exc c vs => rw [e3] at h2; obtain ⟨h2', e4⟩ := h2; exact ⟨h2', by unfold sTup sCons; rw [e2, bind_ok, e4]; rfl⟩
    | ok q =>
      rw [e3] at h2
      obtain ⟨h2', e4, H2⟩ := h2
      rw [N.ok_bind]
      have h3 := h3 q.2 h2' H2
      cases e5 : m3 q.2 with
      | bad => trivial
      | exc c vs => rw [e5] at h3; obtain ⟨h3', e6⟩ := h3; exact ⟨h3', by unfold sTup sCons; rw [e2, bind_ok, e4, bind_ok, e6]; rfl⟩
      | ok t =>
        rw [e5] at h3
        obtain ⟨h3', e6, H3⟩ := h3
        exact ⟨h3', by unfold sTup sCons; rw [e2, bind_ok, e4, bind_ok, e6]; rfl, H3⟩
theorem es_p4 {fd : SE} {m1 : σ → N (α × σ)} {m2 : σ → N (β × σ)} {m3 : σ → N (γ × σ)} {m4 : σ → N (ε × σ)} (h1 : ES b own k rS v sv fa m1) (h2 : ES b own k rS v sv fb m2) (h3 : ES b own k rS v sv fc m3) (h4 : ES b own k rS v sv fd m4) :
    ES b own k rS v sv (sTup (sCons fa (sCons fb (sCons fc (sCons fd sNil))))) fun s => (m1 s).bind2 fun x s => (m2 s).bind2 fun y s => (m3 s).bind2 fun z s => (m4 s).bind2 fun w s => .ok (P4.mk x y z w, s) := fun s h H => by
  have h1 := h1 s h H
  dsimp only [N.bind2]
  cases e1 : m1 s with
  | bad => trivial
  | exc c vs => rw [e1] at h1; obtain ⟨h', e2⟩ := h1; exact ⟨h', by unfold sTup sCons; rw [e2]; rfl⟩
  | ok p =>
    rw [e1] at h1
    obtain ⟨h', e2, H'⟩ := h1
    rw [N.ok_bind]
    have h2 := h2 p.2 h' H'
    cases e3 : m2 p.2 with
    | bad => trivial
    | exc c vs => rw [e3] at h2; obtain ⟨h2', e4⟩ := h2; exact ⟨h2', by unfold sTup sCons; rw [e2, bind_ok, e4]; rfl⟩
    | ok q =>
      rw [e3] at h2
      obtain ⟨h2', e4, H2⟩ := h2
      rw [N.ok_bind]
      have h3 := h3 q.2 h2' H2
      cases e5 : m3 q.2 with
      | bad => trivial
      | exc c vs => rw [e5] at h3; obtain ⟨h3', e6⟩ := h3; exact ⟨h3', by unfold sTup sCons; rw [e2, bind_ok, e4, bind_ok, e6]; rfl⟩
      | ok t =>
        rw [e5] at h3
        obtain ⟨h3', e6, H3⟩ := h3
        rw [N.ok_bind]
        have h4 := h4 t.2 h3' H3
        cases e7 : m4 t.2 with
        | bad => trivial
        | exc c vs => rw [e7] at h4; obtain ⟨h4', e8⟩ := h4; exact ⟨h4', by unfold sTup sCons; rw [e2, bind_ok, e4, bind_ok, e6, bind_ok, e8]; rfl⟩
        | ok w =>
          rw [e7] at h4
          obtain ⟨h4', e8, H4⟩ := h4
          exact ⟨h4', by unfold sTup sCons; rw [e2, bind_ok, e4, bind_ok, e6, bind_ok, e8]; rfl, H4⟩
/-- a value given back where the thing is one's own -/
theorem bs_ret0 [r : RetM m ρ b] {ma : σ → N (ρ × σ)} (hk : own[k]? = some (OI.of rS v s)) (he : ES b own k rS v sv fe ma) : BJ m b own sv (sRet fe) ((ma s).bind2 fun a _ => .ok (r.rt a)) := fun h H => by
  have he := he s h (by rw [own_self hk]; exact H)
  dsimp only [N.bind2]
  cases e : ma s with
  | bad => exact m.bad _
  | exc c vs =>
    rw [e] at he; obtain ⟨h', e1⟩ := he
    have e2 : sRet fe sv h = .exc c vs h' := by unfold sRet; rw [e1]; rfl
    rw [e2]; exact m.exc _ _ _
  | ok p =>
    rw [e] at he; obtain ⟨h', e1, H'⟩ := he
    have e2 : sRet fe sv h = .ok (.rt (enc p.1)) h' := by unfold sRet; rw [e1]; rfl
    rw [e2]
    exact r.ok p.1 h' H'.1
/-- a list of one's own given back -/
theorem bs_retF {i j : Nat} {w : Val} {xs : List α} [r : RetS m (List α) σ b rS v] (hk : own[0]? = some (OI.of rS v s)) (hj0 : Nat.beq j 0 = false) (e : sv[i]? = some (some w)) (hj : own[j]? = some (OI.of (rpL (rpF α)) w xs)) : BJ m b own sv (sRet (sFrz (sVar i))) (.ok (r.rt xs s)) := fun h H => by
  obtain ⟨B0, n, ws, F', e1, e2, e3, q⟩ := H.get hj
  have q := q.plain
  rw [q.1] at e2
  subst e1
  have e4 : sRet (sFrz (sVar i)) sv h = .ok (.rt (enc xs)) (h.set n .dead) := by
    have e0 : sVar i sv h = .ok (.ref n) h := by unfold sVar; rw [e]
    unfold sRet sFrz
    rw [e0, bind_ok]
    unfold frz
    simp only [e2]
    rfl
  rw [e4]
  have hj1 : j ≠ 0 := fun z => by subst z; cases hj0
  have H2 := H.put (o' := OI.no) hj (h' := h.set n .dead) (fun B pB nd => ⟨[], (rfl : ([] : List Nat) = []), List.nodup_nil, fun j hj => (nomatch hj), fun j hj hB => by
    obtain ⟨n2, ws2, F2, x1, x2, x3, x4⟩ := pB
    cases x1
    exact List.getElem?_set_ne fun z => hB (by rw [x3, z]; exact List.mem_cons_self)⟩) (by rw [List.length_set]; exact Nat.le_refl _)
  exact r.ok xs s _ (holds_one (by rw [List.getElem?_set_ne hj1]; exact hk) H2)
/-- x = f(..), a new thing -/
def NewS (rS : Rep σ) (h : Hv) (r : R Val) (n : N σ) : Prop := match n with
  | .ok s => ∃ v h' F, r = .ok v h' ∧ rS.p h' v s F ∧ F.Nodup ∧ (∀ j ∈ F, h.length ≤ j) ∧ Bs h h'
  | _ => True
theorem bs_newV {i j : Nat} {G : SF} {f : α → N σ} {a : α} {w : Val} {kk : σ → N χ} (hG : ∀ h, NewS rS h (G [w] h) (f a)) (hw : sv[j]? = some (some w)) (h2 : ∀ v s, BJ m b (own ++ [OI.of rS v s]) (sv.set i (some v)) rest (kk s)) : BJ m b own sv (sSeq (sSet i (sCall (callF 1 G) (sCons (sVar j) sNil))) rest) ((noE (f a)).bind kk) := fun h H => by
  have hG := hG h
  cases e : f a with
  | bad => exact m.bad _
  | exc c vs => exact m.bad _
  | ok s =>
    rw [e] at hG
    obtain ⟨v, h', F, e3, p, nd, hF, hs⟩ := hG
    have e2 : sSeq (sSet i (sCall (callF 1 G) (sCons (sVar j) sNil))) rest sv h = rest (sv.set i (some v)) h' := by
      have e0 : sVar j sv h = .ok w h := by unfold sVar; rw [hw]
      unfold sSeq sSet sCall sCons sNil
      rw [e0, bind_ok, bind_ok, bind_ok]
      show ((noX (G [w] h)).bind _).bind _ = _
      rw [e3]
      rfl
    rw [e2]
    exact h2 v s h' (H.new p nd hF hs)
theorem trunc_inv {F : SF} {us : List Val} {h h' : Hv} {v : Val} (e : trunc F us h = .ok v h') : ∃ h1, F us h = .ok v h1 := by
  unfold trunc at e
  cases e1 : F us h with
  | ok w h1 =>
    rw [e1, bind_ok] at e
    split at e
    · cases e; exact ⟨h1, rfl⟩
    · cases e
  | exc _ _ _ => rw [e1] at e; cases e
  | bad => rw [e1] at e; cases e
theorem bs_new {i : Nat} {G : SF} {f : α → N σ} {na : N α} {kk : σ → N χ} (hG : ∀ h v1 a, arg v1 a → NewS rS h (G [v1] h) (f a)) (h1 : VJ (Holds b own) sv fa na) (h2 : ∀ v s, BJ m b (own ++ [OI.of rS v s]) (sv.set i (some v)) rest (kk s)) : BJ m b own sv (sSeq (sSet i (sCall (callF 1 G) (sCons fa sNil))) rest) (na.bind fun a => (noE (f a)).bind kk) := fun h H => by
  have h1 := h1 h H
  cases na with
  | bad => exact m.bad _
  | exc c vs =>
    have e2 : sSeq (sSet i (sCall (callF 1 G) (sCons fa sNil))) rest sv h = .exc c vs h := by unfold sSeq sSet sCall sCons; rw [show fa sv h = .exc c vs h from h1]; rfl
    rw [e2]; exact m.exc _ _ _
  | ok a =>
    obtain ⟨v1, e1, a1⟩ := h1
    have hG := hG h v1 a a1
    rw [N.ok_bind]
    cases e : f a with
    | bad => exact m.bad _
    | exc c vs => exact m.bad _
    | ok s =>
      rw [e] at hG
      obtain ⟨v, h', F, e3, p, nd, hF, hs⟩ := hG
      have e2 : sSeq (sSet i (sCall (callF 1 G) (sCons fa sNil))) rest sv h = rest (sv.set i (some v)) h' := by
        unfold sSeq sSet sCall sCons sNil
        rw [e1, bind_ok, bind_ok, bind_ok]
        show ((noX (G [v1] h)).bind _).bind _ = _
        rw [e3]
        rfl
      rw [e2]
      exact h2 v s h' (H.new p nd hF hs)
end
end Nx

set_option Elab.async false
set_option linter.all false
set_option maxRecDepth 100000
set_option maxHeartbeats 2000000
/-! NxPlain: reckoning with plain results -/
namespace Nx
open Sx
open Enc (enc arg red)
open ToD (toD)
/-- it ends well, with P -/
def N.Ok {α : Type} (n : N α) (P : α → Prop) : Prop := ∃ a, n = .ok a ∧ P a
section
variable {α β γ σ ρ τ : Type}
theorem N.bind2_bind2 {m : N (α × σ)} {f : α → σ → N (β × τ)} {g : β → τ → N γ} : (m.bind2 f).bind2 g = m.bind2 fun a s => (f a s).bind2 g := by cases m <;> rfl
theorem N.bind_bind2 {m : N α} {f : α → N (β × τ)} {g : β → τ → N γ} : (m.bind f).bind2 g = m.bind fun a => (f a).bind2 g := by cases m <;> rfl
theorem N.bind2_bind {m : N (α × σ)} {f : α → σ → N β} {g : β → N γ} : (m.bind2 f).bind g = m.bind2 fun a s => (f a s).bind g := by cases m <;> rfl
theorem N.ok_Ok {a : α} {P : α → Prop} (h : P a) : (N.ok a).Ok P := ⟨a, rfl, h⟩
theorem N.Ok.bind {n : N α} {f : α → N β} {P : α → Prop} {Q : β → Prop} (h : n.Ok P) (k : ∀ a, P a → (f a).Ok Q) : (n.bind f).Ok Q := by
  obtain ⟨a, e, p⟩ := h
  rw [e]; exact k a p
theorem N.Ok.bind2 {n : N (α × σ)} {f : α → σ → N β} {P : α × σ → Prop} {Q : β → Prop} (h : n.Ok P) (k : ∀ a s, P (a, s) → (f a s).Ok Q) : (n.bind2 f).Ok Q := by
  obtain ⟨a, e, p⟩ := h
  rw [e]; exact k a.1 a.2 p
theorem N.Ok.imp {n : N α} {P Q : α → Prop} (h : n.Ok P) (k : ∀ a, P a → Q a) : n.Ok Q := by
  obtain ⟨a, e, p⟩ := h
  exact ⟨a, e, k a p⟩
/-! step by step, from the head -/
theorem N.Ok.b {n : N α} {f : α → N β} {Q : β → Prop} (h : n.Ok fun a => (f a).Ok Q) : (n.bind f).Ok Q := h.bind fun _ k => k
theorem N.Ok.b2 {n : N (α × σ)} {f : α → σ → N β} {Q : β → Prop} (h : n.Ok fun p => (f p.1 p.2).Ok Q) : (n.bind2 f).Ok Q := h.bind fun _ k => k
theorem N.Ok.i {a : α} {Q : α → Prop} (h : Q a) : (N.ok a).Ok Q := ⟨a, rfl, h⟩
theorem N.Ok.ite {c : Prop} [Decidable c] {A B : N α} {Q : α → Prop} (h1 : c → A.Ok Q) (h2 : ¬c → B.Ok Q) : (if decide c = true then A else B).Ok Q := by
  by_cases h : c
  · rw [if_pos (decide_eq_true h)]; exact h1 h
  · rw [if_neg (by simpa using h)]; exact h2 h
theorem N.Ok.iteB {k : Bool} {A B : N α} {Q : α → Prop} (h1 : k = true → A.Ok Q) (h2 : k = false → B.Ok Q) : (if k = true then A else B).Ok Q := by
  cases k
  · exact h2 rfl
  · exact h1 rfl
theorem N.Ok.sz {xs : List α} {Q : List α → Prop} (h : xs.length ≤ 16777216) (q : Q xs) : (szN xs).Ok Q := ⟨xs, if_pos h, q⟩
theorem N.Ok.eq {n n' : N α} {Q : α → Prop} (e : n = n') (h : n'.Ok Q) : n.Ok Q := e ▸ h
theorem N.Ok.noE {n : N α} {P : α → Prop} (h : n.Ok P) : (noE n).Ok P := by
  obtain ⟨a, e, p⟩ := h
  rw [e]; exact ⟨a, rfl, p⟩
@[simp] theorem noE_ok {a : α} : noE (N.ok a) = .ok a := rfl
@[simp] theorem noE_bad : noE (N.bad : N α) = .bad := rfl
@[simp] theorem N.chk_true {n : N α} : N.chk True n = n := rfl
theorem ixN_of {xs : List α} {i : Nat} (h : i < xs.length) : ixN xs (i : Int) = .ok xs[i] := by
  unfold ixN ixv
  rw [if_pos (by omega)]
  simp [h]
theorem ixN_int {xs : List α} {i : Int} (h0 : 0 ≤ i) (h : i.toNat < xs.length) : ixN xs i = .ok xs[i.toNat] := by
  unfold ixN ixv
  rw [if_pos h0]
  simp [h]
@[simp] theorem ixN_0 {x : α} {xs : List α} : ixN (x :: xs) 0 = .ok x := rfl
@[simp] theorem ixN_1 {x y : α} {xs : List α} : ixN (x :: y :: xs) 1 = .ok y := rfl
@[simp] theorem ixN_2 {x y z : α} {xs : List α} : ixN (x :: y :: z :: xs) 2 = .ok z := rfl
@[simp] theorem ixN_3 {x y z u : α} {xs : List α} : ixN (x :: y :: z :: u :: xs) 3 = .ok u := rfl
@[simp] theorem ixN_4 {x y z u w : α} {xs : List α} : ixN (x :: y :: z :: u :: w :: xs) 4 = .ok w := rfl
@[simp] theorem D.ix_tup {ds : List D} {i : Int} : (D.tup ds).ix i = ixN ds i := rfl
@[simp] theorem D.ix_fl {ds : List D} {i : Int} : (D.fl ds).ix i = ixN ds i := rfl
@[simp] theorem D.asI_int {i : Int} : (D.int i).asI = .ok i := rfl
@[simp] theorem D.asS_str {x : List Nat} : (D.str x).asS = .ok x := rfl
@[simp] theorem D.asB_bl {x : Bool} : (D.bl x).asB = .ok x := rfl
@[simp] theorem D.asT_tup {ds : List D} : (D.tup ds).asT = .ok ⟨ds⟩ := rfl
@[simp] theorem D.asL_fl {ds : List D} : (D.fl ds).asL = .ok ds := rfl
@[simp] theorem D.as2_tup {a b : D} : (D.tup [a, b]).as2 = .ok ⟨a, b⟩ := rfl
@[simp] theorem D.as3_tup {a b c : D} : (D.tup [a, b, c]).as3 = .ok ⟨a, b, c⟩ := rfl
@[simp] theorem D.as4_tup {a b c d : D} : (D.tup [a, b, c, d]).as4 = .ok ⟨a, b, c, d⟩ := rfl
@[simp] theorem toD_int {i : Int} : toD i = D.int i := rfl
@[simp] theorem toD_bl {i : Bool} : toD i = D.bl i := rfl
@[simp] theorem toD_str {i : List Nat} : toD i = D.str i := rfl
@[simp] theorem toD_D {i : D} : toD i = i := rfl
@[simp] theorem toD_tuD {t : Tu D} : toD t = D.tup t.l := by show D.tup (t.l.map fun d => d) = _; rw [List.map_id']
@[simp] theorem toD_tuI {t : Tu Int} : toD t = D.tup (t.l.map D.int) := rfl
@[simp] theorem toD_lD {t : List D} : toD t = D.fl t := by show D.fl (t.map fun d => d) = _; rw [List.map_id']
@[simp] theorem toD_lI {t : List Int} : toD t = D.fl (t.map D.int) := rfl
section
variable {α β γ δ : Type} [Enc α] [Enc β] [Enc γ] [Enc δ] [ToD α] [ToD β] [ToD γ] [ToD δ]
@[simp] theorem toD_p2 {p : P2 α β} : toD p = D.tup [toD p.a, toD p.b] := rfl
@[simp] theorem toD_p3 {p : P3 α β γ} : toD p = D.tup [toD p.a, toD p.b, toD p.c] := rfl
@[simp] theorem toD_p4 {p : P4 α β γ δ} : toD p = D.tup [toD p.a, toD p.b, toD p.c, toD p.d] := rfl
end
@[simp] theorem unO_some {α : Type} {a : α} : unO (some a) = .ok a := rfl
@[simp] theorem szN_of {xs : List α} (h : xs.length ≤ 16777216) : szN xs = .ok xs := if_pos h
@[simp] theorem szN_0 {α : Type} : szN ([] : List α) = .ok [] := rfl
@[simp] theorem szN_1 {α : Type} {a : α} : szN [a] = .ok [a] := szN_of (by simp)
@[simp] theorem szN_2 {α : Type} {a b : α} : szN [a, b] = .ok [a, b] := szN_of (by simp)
@[simp] theorem szN_3 {α : Type} {a b c : α} : szN [a, b, c] = .ok [a, b, c] := szN_of (by simp)
@[simp] theorem szN_4 {α : Type} {a b c d : α} : szN [a, b, c, d] = .ok [a, b, c, d] := szN_of (by simp)
@[simp] theorem szN_5 {α : Type} {a b c d e : α} : szN [a, b, c, d, e] = .ok [a, b, c, d, e] := szN_of (by simp)
theorem mulI_of {a b : Int} (h : (-18446744073709551616 < b ∧ b < 18446744073709551616) ∨ (-18446744073709551616 < a ∧ a < 18446744073709551616)) : mulI a b = .ok (a * b) := if_pos h
theorem modI_of {a b : Int} (h : 0 < b) : modI a b = .ok (a % b) := if_pos h
theorem divI_of {a b : Int} (h : 0 < b ∧ b < 1000000000000) : divI a b = .ok (a / b) := if_pos h
theorem range1N_of {j : Int} (h : -4611686018427387904 ≤ j ∧ j < 4611686018427387904) : range1N j = .ok (rangeN 0 j.toNat) := if_pos h
theorem mem_rangeN {lo x : Int} {n : Nat} : x ∈ rangeN lo n ↔ lo ≤ x ∧ x < lo + n := by
  unfold rangeN
  simp only [List.mem_map, List.mem_range]
  exact ⟨fun ⟨a, h, e⟩ => by omega, fun h => ⟨(x - lo).toNat, by omega, by omega⟩⟩
@[simp] theorem rangeN_len {lo : Int} {n : Nat} : (rangeN lo n).length = n := by unfold rangeN; simp
theorem N.Ok.mul {a b : Int} {Q : Int → Prop} (h : (-18446744073709551616 < b ∧ b < 18446744073709551616) ∨ (-18446744073709551616 < a ∧ a < 18446744073709551616)) (q : Q (a * b)) : (mulI a b).Ok Q := ⟨_, mulI_of h, q⟩
theorem N.Ok.mod {a b : Int} {Q : Int → Prop} (h : 0 < b) (q : Q (a % b)) : (modI a b).Ok Q := ⟨_, modI_of h, q⟩
theorem N.Ok.div {a b : Int} {Q : Int → Prop} (h : 0 < b ∧ b < 1000000000000) (q : Q (a / b)) : (divI a b).Ok Q := ⟨_, divI_of h, q⟩
theorem N.Ok.rng {j : Int} {Q : List Int → Prop} (h : -4611686018427387904 ≤ j ∧ j < 4611686018427387904) (q : Q (rangeN 0 j.toNat)) : (range1N j).Ok Q := ⟨_, range1N_of h, q⟩
/-! comprehensions -/
theorem lcN_map {f : α → N β} {g : α → β} : ∀ {xs : List α} {n : Nat}, (∀ x ∈ xs, f x = .ok (g x)) → n + xs.length ≤ 16777216 → lcN (fun _ => .ok true) f n xs = .ok (xs.map g)
  | [], _, _, _ => rfl
  | x :: xs, n, h, hn => by
    have hl : n < 16777216 := by simp at hn; omega
    unfold lcN
    rw [N.ok_bind, if_pos rfl, h x List.mem_cons_self, N.ok_bind, N.chk_t hl, lcN_map (fun y hy => h y (List.mem_cons_of_mem _ hy)) (by simp at hn; omega)]
    rfl
theorem lcN_filter {t : α → N Bool} {p : α → Bool} {f : α → N β} {g : α → β} : ∀ {xs : List α} {n : Nat}, (∀ x ∈ xs, t x = .ok (p x)) → (∀ x ∈ xs, p x = true → f x = .ok (g x)) → n + xs.length ≤ 16777216 → lcN t f n xs = .ok ((xs.filter p).map g)
  | [], _, _, _, _ => rfl
  | x :: xs, n, h, k, hn => by
    have hl : n < 16777216 := by simp at hn; omega
    unfold lcN
    rw [h x List.mem_cons_self, N.ok_bind]
    cases e : p x with
    | false =>
      rw [if_neg Bool.false_ne_true, lcN_filter (fun y hy => h y (List.mem_cons_of_mem _ hy)) (fun y hy => k y (List.mem_cons_of_mem _ hy)) (by simp at hn; omega), List.filter_cons, e]
      rfl
    | true =>
      rw [if_pos rfl, k x List.mem_cons_self e, N.ok_bind, N.chk_t hl, lcN_filter (fun y hy => h y (List.mem_cons_of_mem _ hy)) (fun y hy => k y (List.mem_cons_of_mem _ hy)) (by simp at hn; omega), List.filter_cons, e]
      rfl
theorem lcN_all {t : α → N Bool} {f : α → N β} {P : β → Prop} : ∀ {xs : List α} {n : Nat}, (∀ x ∈ xs, (t x).Ok fun _ => True) → (∀ x ∈ xs, (f x).Ok P) → n + xs.length ≤ 16777216 → (lcN t f n xs).Ok fun ys => (∀ y ∈ ys, P y) ∧ ys.length ≤ xs.length
  | [], _, _, _, _ => ⟨[], rfl, (fun y hy => nomatch hy), Nat.le_refl _⟩
  | x :: xs, n, h, k, hn => by
    have hl : n < 16777216 := by simp at hn; omega
    unfold lcN
    refine (h x List.mem_cons_self).bind fun b _ => ?_
    cases b with
    | false =>
      rw [if_neg Bool.false_ne_true]
      exact (lcN_all (fun y hy => h y (List.mem_cons_of_mem _ hy)) (fun y hy => k y (List.mem_cons_of_mem _ hy)) (by simp at hn; omega)).imp fun ys hy => ⟨hy.1, Nat.le_succ_of_le hy.2⟩
    | true =>
      rw [if_pos rfl]
      refine (k x List.mem_cons_self).bind fun y hy => ?_
      rw [N.chk_t hl]
      refine (lcN_all (fun y hy => h y (List.mem_cons_of_mem _ hy)) (fun y hy => k y (List.mem_cons_of_mem _ hy)) (by simp at hn; omega)).bind fun ys hys => ?_
      refine ⟨_, rfl, fun z hz => ?_, by simpa using hys.2⟩
      rcases List.mem_cons.mp hz with e | e
      · rw [e]; exact hy
      · exact hys.1 z e
theorem lcS_Ok {f : α → σ → N (β × σ)} {P : α → β → Prop} : ∀ {xs : List α} {n : Nat} {s : σ}, (∀ x ∈ xs, ∀ s, (f x s).Ok fun p => P x p.1) → n + xs.length ≤ 16777216 → (lcS (fun _ => .ok true) f n xs s).Ok fun p => p.1.length = xs.length ∧ ∀ i (h1 : i < p.1.length) (h2 : i < xs.length), P xs[i] p.1[i]
  | [], _, s, _, _ => ⟨([], s), rfl, rfl, fun i h1 => absurd h1 (Nat.not_lt_zero _)⟩
  | x :: xs, n, s, h, hn => by
    have hl : n < 16777216 := by simp at hn; omega
    unfold lcS
    rw [N.ok_bind, if_pos rfl]
    refine (h x List.mem_cons_self s).bind2 fun y s1 hy => ?_
    rw [N.chk_t hl]
    refine (lcS_Ok (xs := xs) (n := n + 1) (s := s1) (fun z hz => h z (List.mem_cons_of_mem _ hz)) (by simp at hn; omega)).bind2 fun ys s2 hys => ?_
    refine ⟨_, rfl, by simp [hys.1], fun i h1 h2 => ?_⟩
    cases i with
    | zero => exact hy
    | succ i => exact hys.2 i (by simpa using h1) (by simpa using h2)
theorem lcS_all {f : α → σ → N (β × σ)} {P : β → Prop} {xs : List α} {n : Nat} {s : σ} (h : ∀ x ∈ xs, ∀ s, (f x s).Ok fun p => P p.1) (hn : n + xs.length ≤ 16777216) : (lcS (fun _ => .ok true) f n xs s).Ok fun p => p.1.length = xs.length ∧ ∀ y ∈ p.1, P y := by
  refine (lcS_Ok (P := fun _ y => P y) h hn).imp fun p hp => ⟨hp.1, fun y hy => ?_⟩
  obtain ⟨i, hi, e⟩ := List.getElem_of_mem hy
  rw [← e]
  exact hp.2 i hi (by rw [← hp.1]; exact hi)
/-! loops -/
theorem forN_inv {f : α → γ → N γ} (P : Nat → γ → Prop) : ∀ {xs : List α} {g : γ} {k : Nat}, P k g → (∀ i x g, xs[i]? = some x → P (k + i) g → (f x g).Ok (P (k + i + 1))) → (forN xs g f).Ok (P (k + xs.length))
  | [], g, k, h, _ => ⟨g, rfl, h⟩
  | x :: xs, g, k, h, hs => by
    unfold forN
    refine (hs 0 x g rfl h).bind fun g' hg => ?_
    have := forN_inv (xs := xs) (g := g') (k := k + 1) P hg (fun i y g e hp => by
      have := hs (i + 1) y g (by simpa using e) (by rw [show k + (i + 1) = k + 1 + i by omega]; exact hp)
      rw [show k + (i + 1) + 1 = k + 1 + i + 1 by omega] at this
      exact this)
    rw [List.length_cons, show k + (xs.length + 1) = k + 1 + xs.length by omega]
    exact this
theorem forC_inv {f : α → γ → N (Ctl ρ γ)} (P : γ → Prop) : ∀ {xs : List α} {g : γ}, P g → (∀ x g, x ∈ xs → P g → (f x g).Ok fun c => ∃ g', c = .nx g' ∧ P g') → (forC xs g f).Ok fun c => ∃ g', c = .nx g' ∧ P g'
  | [], g, h, _ => ⟨_, rfl, g, rfl, h⟩
  | x :: xs, g, h, hs => by
    unfold forC
    refine (hs x g List.mem_cons_self h).bind fun c hc => ?_
    obtain ⟨g', rfl, hg⟩ := hc
    exact forC_inv P hg fun y g hy => hs y g (List.mem_cons_of_mem _ hy)
end
end Nx

set_option Elab.async false
set_option linter.all false
set_option maxRecDepth 100000
set_option maxHeartbeats 4000000
namespace Lw
open Sx Wd
noncomputable section
def c_GREATEST : Val := .int 2147483647
def c_MODULUS : Val := .int 4294967296
def c_REGISTERS : Val := .int 8
/-! ### _law_stream -/
def M_law_stream_1 : SS := (sSet 1 (sBin gMod (sCall cInt (sCons (sBin gAddX (sBin gAddX (sBin gMulX (sVar 1) (sC (.int 48271))) (sBin gMod (sCall cInt (sCons (sVar 2) sNil)) (sC (.int 65521)))) (sC (.int 1))) sNil)) (sC (.int 2147483647))))
def M_law_stream_b : SS := (sSeq (sSet 1 (sC (.int 17))) (sSeq (sFor (iVal (sVar 0)) (gNm 2) M_law_stream_1) (sRet (sLstN (sCons (sCall cList (sCons (sVar 0) sNil)) (sCons (sC (.int 0)) (sCons (sC (.int 0)) (sCons (sVar 1) sNil))))))))
def M_law_stream : SF := sFn 1 3 M_law_stream_b
def mixV (xs : List Int) : Int := xs.foldl (fun m x => (m * 48271 + x % 65521 + 1) % 2147483647) 17
def newS (xs : List Int) : Strm := ⟨xs, 0, 0, mixV xs⟩
theorem mix_lt : ∀ (xs : List Int) (m : Int), 0 ≤ m ∧ m < 2147483647 → 0 ≤ xs.foldl (fun m x => (m * 48271 + x % 65521 + 1) % 2147483647) m ∧ xs.foldl (fun m x => (m * 48271 + x % 65521 + 1) % 2147483647) m < 2147483647
  | [], _, h => h
  | x :: xs, m, _ => by
    rw [List.foldl_cons]
    refine mix_lt xs _ ?_
    show 0 ≤ (m * 48271 + x % 65521 + 1) % 2147483647 ∧ (m * 48271 + x % 65521 + 1) % 2147483647 < 2147483647
    omega
theorem newS_ok {xs : List Int} (h : xs.length ≤ 63) : (newS xs).ok := ⟨by show (0 : Int) ≤ 0; decide, Nat.zero_le _, (mix_lt xs 17 (by decide)).1, (mix_lt xs 17 (by decide)).2, h⟩
def G_law_stream : SF := fun us h => match us with
  | [.kl vs] => (match unIs vs with
    | some xs => if xs.length ≤ 63 then .ok (.ref h.length) (h ++ [strmC (newS xs)]) else .bad
    | none => .bad)
  | _ => .bad
theorem stream_loop {x0 : Option Val} {h : Hv} : ∀ (xs : List Int) (m : Int) (c : Option Val), ∃ c', sForL (gNm 2) M_law_stream_1 (iV xs) [x0, some (.int m), c] h = .ok (.nx [x0, some (.int (xs.foldl (fun m x => (m * 48271 + x % 65521 + 1) % 2147483647) m)), c']) h
  | [], m, c => ⟨c, rfl⟩
  | x :: xs, m, c => by
    obtain ⟨c', e⟩ := stream_loop (x0 := x0) (h := h) xs ((m * 48271 + x % 65521 + 1) % 2147483647) (some (.int x))
    refine ⟨c', ?_⟩
    show sForL (gNm 2) M_law_stream_1 (.int x :: iV xs) _ h = _
    rw [sForL_cons]
    have st : M_law_stream_1 [x0, some (.int m), some (.int x)] h = .ok (.nx [x0, some (.int ((m * 48271 + x % 65521 + 1) % 2147483647)), some (.int x)]) h := by
      simp [M_law_stream_1]
    rw [gNm_app, bind_ok]
    simp only [List.set_cons_succ, List.set_cons_zero]
    rw [st, bind_ok]
    exact e
theorem le_law_stream : ∀ us h, G_law_stream us h = .bad ∨ M_law_stream us h = G_law_stream us h := by
  intro us h
  unfold G_law_stream
  split
  · rename_i vs
    cases e : unIs vs with
    | none => exact .inl rfl
    | some xs =>
      simp only
      split
      · right
        have ev := unIs_of e
        subst ev
        obtain ⟨c', el⟩ := stream_loop (x0 := some (.kl (iV xs))) (h := h) xs 17 none
        simp [M_law_stream, M_law_stream_b, List.replicate, el, lstNK, strmC, strmL, newS, mixV]
      · exact .inl rfl
  · exact .inl rfl
theorem stream_spec {h : Hv} {xs : List Int} (hl : xs.length ≤ 63) : G_law_stream [.kl (iV xs)] h = .ok (.ref h.length) (h ++ [strmC (newS xs)]) := by
  show (match unIs (iV xs) with
    | some xs => if xs.length ≤ 63 then R.ok (Val.ref h.length) (h ++ [strmC (newS xs)]) else .bad
    | none => .bad) = _
  rw [unIs_iV]
  exact if_pos hl
/-! ### _law_draw -/
def M_law_draw_b : SS := (sSeq (sIte (tAnd' (sTest (sBin gEq (sBin gIxD (sVar 0) (sC (.int 1))) (sC (.int 0)))) (sTest (sBin gLt (sBin gIxD (sVar 0) (sC (.int 2))) (sCall cLen (sCons (sBin gIxD (sVar 0) (sC (.int 0))) sNil))))) (sSeq (sAsg (sCall cAbs (sCons (sCall cInt (sCons (sBin gIxD (sBin gIxD (sVar 0) (sC (.int 0))) (sBin gIxD (sVar 0) (sC (.int 2)))) sNil)) sNil)) (gSub' (sVar 0) (sC (.int 1)))) (sAsg (sBin gAddX (sBin gIxD (sVar 0) (sC (.int 2))) (sC (.int 1))) (gSub' (sVar 0) (sC (.int 2))))) sSkip) (sSeq (sIte (sTest (sBin gEq (sBin gIxD (sVar 0) (sC (.int 1))) (sC (.int 0)))) (sSeq (sAsg (sBin gMod (sCall cInt (sCons (sBin gAddX (sBin gMulX (sBin gIxD (sVar 0) (sC (.int 3))) (sC (.int 48271))) (sC (.int 11))) sNil)) (sC (.int 2147483647))) (gSub' (sVar 0) (sC (.int 3)))) (sRet (sBin gMod (sCall cInt (sCons (sBin gDiv (sBin gIxD (sVar 0) (sC (.int 3))) (sC (.int 97))) sNil)) (sVar 1)))) sSkip) (sSeq (sSet 2 (sBin gMod (sCall cInt (sCons (sBin gIxD (sVar 0) (sC (.int 1))) sNil)) (sVar 1))) (sSeq (sAsg (sBin gDiv (sBin gIxD (sVar 0) (sC (.int 1))) (sVar 1)) (gSub' (sVar 0) (sC (.int 1)))) (sRet (sVar 2))))))
def M_law_draw : SF := sFn 2 3 M_law_draw_b
def G_law_draw : SF := fun us h => match us with
  | [.ref i, .int n] => (match strm? (cellAt h i) with
    | some S => if S.ok ∧ 0 < n ∧ n < 1000000000000 then .ok (.int (drawV S n)) (h.set i (strmC (drawS S n))) else .bad
    | none => .bad)
  | _ => .bad
theorem draw_spec {h : Hv} {i : Nat} {n : Int} {S : Strm} (e : strmAt h i S) (h0 : 0 < n) (h1 : n < 1000000000000) : G_law_draw [.ref i, .int n] h = .ok (.int (drawV S n)) (h.set i (strmC (drawS S n))) := by
  show (match strm? (cellAt h i) with | some S => if S.ok ∧ 0 < n ∧ n < 1000000000000 then R.ok (Val.int (drawV S n)) (h.set i (strmC (drawS S n))) else .bad | none => .bad) = _
  rw [strm?_at e]
  exact if_pos ⟨e.2, h0, h1⟩
theorem m_law_draw {h : Hv} {i : Nat} {n : Int} {S : Strm} (e0 : cellAt h i = some (strmC S)) (ho : S.ok) (hn : 0 < n ∧ n < 1000000000000) : M_law_draw [.ref i, .int n] h = .ok (.int (drawV S n)) (h.set i (strmC (drawS S n))) := by
  have hl : i < h.length := cellAt_lt e0
  have e : cellAt h i = some (.lst [.fl (iV S.xs), .int S.a, .int S.b, .int S.c]) := e0
  obtain ⟨o1, o2, o3, o4, o5⟩ := ho
  by_cases hf : S.a = 0 ∧ S.b < S.xs.length
  · have ef : fillS S = { S with a := absI S.xs[S.b], b := S.b + 1 } := by
      unfold fillS; rw [if_pos hf]; simp [hf.2]
    have gx : (iV S.xs)[S.b]? = some (.int S.xs[S.b]) := iV_get hf.2
    have gx' : ixv (iV S.xs) (S.b : Int) = some (.int S.xs[S.b]) := by unfold ixv; rw [if_pos (by omega)]; simpa using gx
    have ha : (if S.xs[S.b] < 0 then -S.xs[S.b] else S.xs[S.b]) = absI S.xs[S.b] := rfl
    by_cases hz : absI S.xs[S.b] = 0
    · simp [M_law_draw, M_law_draw_b, e, hl, hf.1, hf.2, List.replicate, ixK_of gx', hn.1, hn.2, drawV, drawS, ef, strmC, strmL, ha, hz]
    · simp [M_law_draw, M_law_draw_b, e, hl, hf.1, hf.2, List.replicate, ixK_of gx', hn.1, hn.2, drawV, drawS, ef, strmC, strmL, ha, hz]
  · have ef : fillS S = S := by unfold fillS; rw [if_neg hf]
    by_cases hz : S.a = 0
    · have hb : ¬ S.b < S.xs.length := fun z => hf ⟨hz, z⟩
      simp [M_law_draw, M_law_draw_b, e, hl, hz, hb, List.replicate, hn.1, hn.2, drawV, drawS, ef, strmC, strmL]
    · simp [M_law_draw, M_law_draw_b, e, hl, hz, List.replicate, hn.1, hn.2, drawV, drawS, ef, strmC, strmL]
theorem le_law_draw : ∀ us h, G_law_draw us h = .bad ∨ M_law_draw us h = G_law_draw us h := by
  intro us h
  unfold G_law_draw
  split
  · rename_i i n
    cases e : strm? (cellAt h i) with
    | none => exact .inl rfl
    | some S =>
      simp only
      split
      · rename_i hh
        exact .inr (m_law_draw (of_strm? e) hh.1 hh.2)
      · exact .inl rfl
  · exact .inl rfl
/-! ### _law_pick -/
def M_law_pick_b : SS := (sRet (sBin gIxD (sVar 1) (sCall (callF 2 G_law_draw) (sCons (sVar 0) (sCons (sCall cLen (sCons (sVar 1) sNil)) sNil)))))
def M_law_pick : SF := sFn 2 2 M_law_pick_b
def pickOf (n : Int) (vs : List Val) : Option Val := vs[n.toNat]?
def G_law_pick : SF := fun us h => match us with
  | [.ref i, .fl vs] => (match strm? (cellAt h i) with
    | some S => if S.ok ∧ 0 < vs.length ∧ vs.length < 1000000000000 then (match vs[(drawV S vs.length).toNat]? with
      | some v => .ok v (h.set i (strmC (drawS S vs.length)))
      | none => .bad) else .bad
    | none => .bad)
  | _ => .bad
theorem le_law_pick : ∀ us h, G_law_pick us h = .bad ∨ M_law_pick us h = G_law_pick us h := by
  intro us h
  unfold G_law_pick
  split
  · rename_i i vs
    cases e : strm? (cellAt h i) with
    | none => exact .inl rfl
    | some S =>
      simp only
      split
      · rename_i hh
        have d := draw_spec (h := h) (i := i) (n := vs.length) (S := S) ⟨of_strm? e, hh.1⟩ (by omega) (by omega)
        have dl := draw_lt (S := S) (n := vs.length) (by omega)
        have hk : (drawV S vs.length).toNat < vs.length := by omega
        rw [List.getElem?_eq_getElem hk]
        right
        have gx : ixv vs (drawV S vs.length) = some vs[(drawV S vs.length).toNat] := by unfold ixv; rw [if_pos (by omega), List.getElem?_eq_getElem hk]
        simp [M_law_pick, M_law_pick_b, List.replicate, d, ixK_of gx]
      · exact .inl rfl
  · exact .inl rfl
theorem G_law_pick_of {h : Hv} {i : Nat} {S : Strm} {vs : List Val} (e : strmAt h i S) (h0 : 0 < vs.length) (h1 : vs.length < 1000000000000) : ∃ (k : Nat) (hk : k < vs.length), G_law_pick [.ref i, .fl vs] h = .ok vs[k] (h.set i (strmC (drawS S vs.length))) := by
  have dl := draw_lt (S := S) (n := vs.length) (by omega)
  have hk : (drawV S vs.length).toNat < vs.length := by omega
  refine ⟨_, hk, ?_⟩
  show (match strm? (cellAt h i) with
    | some S => if S.ok ∧ 0 < vs.length ∧ vs.length < 1000000000000 then (match vs[(drawV S vs.length).toNat]? with
      | some v => R.ok v (h.set i (strmC (drawS S vs.length)))
      | none => .bad) else .bad
    | none => .bad) = _
  rw [strm?_at e]
  simp only
  rw [if_pos ⟨e.2, h0, h1⟩, List.getElem?_eq_getElem hk]
/-! ### _law_word -/
def M_law_word_b : SS := (sRet (sCall (callF 2 G_law_pick) (sCons (sVar 0) (sCons (sLst (sCons (sC (.int 0)) (sCons (sC (.int 1)) (sCons (sC (.int 2)) (sCons (sC (.int 3)) (sCons (sUn gNeg (sC (.int 1))) (sCons (sC (.int 5)) (sCons (sC (.int 7)) (sCons (sUn gNeg (sC (.int 2))) (sCons (sC (.int 31)) (sCons (sC (.int 32)) (sCons (sC (.int 100)) (sCons (sC (.int 65536)) (sCons (sC (.int 2147483647)) (sCons (sUn gNeg (sC (.int 2147483648))) (sCons (sBin gSub (sBin gAddX (sBin gMulX (sCall (callF 2 G_law_draw) (sCons (sVar 0) (sCons (sC (.int 65536)) sNil))) (sC (.int 65536))) (sCall (callF 2 G_law_draw) (sCons (sVar 0) (sCons (sC (.int 65536)) sNil)))) (sC (.int 2147483648))) sNil)))))))))))))))) sNil))))
def M_law_word : SF := sFn 1 1 M_law_word_b
def G_law_word : SF := M_law_word
theorem le_law_word : ∀ us h, G_law_word us h = .bad ∨ M_law_word us h = G_law_word us h := fun _ _ => .inr rfl
/-! ### _law_operators -/
def M_law_operators_b : SS := (sSeq (sIte (sTest (sBin gEq (sVar 0) (sC (.str [102, 111, 108, 100])))) (sRet (sLst (sCons (sC (.str [97, 100, 100])) (sCons (sC (.str [109, 105, 110])) (sCons (sC (.str [109, 97, 120])) (sCons (sC (.str [97, 110, 100])) (sCons (sC (.str [111, 114])) (sCons (sC (.str [120, 111, 114])) sNil)))))))) sSkip) (sSeq (sIte (sTest (sBin gEq (sVar 0) (sC (.str [117, 110, 97, 114, 121])))) (sRet (sLst (sCons (sC (.str [110, 101, 103])) (sCons (sC (.str [110, 111, 116])) (sCons (sC (.str [122, 101, 114, 111])) sNil))))) sSkip) (sRet (sLst (sCons (sC (.str [97, 100, 100])) (sCons (sC (.str [115, 117, 98])) (sCons (sC (.str [109, 117, 108])) (sCons (sC (.str [100, 105, 118])) (sCons (sC (.str [114, 101, 109])) (sCons (sC (.str [97, 110, 100])) (sCons (sC (.str [111, 114])) (sCons (sC (.str [120, 111, 114])) (sCons (sC (.str [115, 104, 108])) (sCons (sC (.str [115, 104, 114])) (sCons (sC (.str [108, 116])) (sCons (sC (.str [108, 101])) (sCons (sC (.str [101, 113])) (sCons (sC (.str [110, 101])) (sCons (sC (.str [109, 105, 110])) (sCons (sC (.str [109, 97, 120])) sNil))))))))))))))))))))
def M_law_operators : SF := sFn 1 1 M_law_operators_b
def G_law_operators : SF := trunc M_law_operators
theorem le_law_operators : ∀ us h, G_law_operators us h = .bad ∨ trunc M_law_operators us h = G_law_operators us h := fun _ _ => .inr rfl
/-! ### _law_instruction -/
def M_law_instruction_b : SS := (sSeq (sSet 4 (sCall (callF 2 G_law_draw) (sCons (sVar 0) (sCons (sVar 3) sNil)))) (sSeq (sSet 5 (sCall (callF 2 G_law_draw) (sCons (sVar 0) (sCons (sVar 3) sNil)))) (sSeq (sSet 6 (sCall (callF 2 G_law_draw) (sCons (sVar 0) (sCons (sVar 3) sNil)))) (sSeq (sSet 7 (sLc [10] (iRange1 (sCall cLen (sCons (sVar 1) sNil))) (gNm 10) (sTest (sBin gEq (sBin gIxD (sBin gIxD (sVar 1) (sVar 10)) (sC (.int 1))) (sC (.str [105, 110, 116])))) (sVar 10))) (sSeq (sSet 8 (sBin gAddX (sLc [10] (iRange1 (sCall cLen (sCons (sVar 1) sNil))) (gNm 10) (sTest (sBin gEq (sBin gIxD (sBin gIxD (sVar 1) (sVar 10)) (sC (.int 1))) (sC (.str [98, 117, 102, 102, 101, 114])))) (sVar 10)) (sLc [10] (iRange1 (sCall cLen (sCons (sVar 2) sNil))) (gNm 10) tTrue (sBin gAddX (sC (.int 6)) (sVar 10))))) (sSeq (sSet 9 (sCall (callF 2 G_law_draw) (sCons (sVar 0) (sCons (sC (.int 14)) sNil)))) (sSeq (sIte (sTest (sBin gLt (sVar 9) (sC (.int 2)))) (sRet (sTup (sCons (sC (.str [119, 111, 114, 100])) (sCons (sVar 4) (sCons (sCall (callF 2 G_law_pick) (sCons (sVar 0) (sCons (sLst (sCons (sC (.int 0)) (sCons (sC (.int 1)) (sCons (sC (.int 2)) (sCons (sC (.int 3)) (sCons (sUn gNeg (sC (.int 1))) (sCons (sCall (callF 1 G_law_word) (sCons (sVar 0) sNil)) sNil))))))) sNil))) sNil))))) sSkip) (sSeq (sIte (tAnd' (sTest (sBin gEq (sVar 9) (sC (.int 2)))) (sTru (sVar 7))) (sRet (sTup (sCons (sC (.str [112, 97, 114, 97, 109])) (sCons (sVar 4) (sCons (sCall (callF 2 G_law_pick) (sCons (sVar 0) (sCons (sVar 7) sNil))) sNil))))) sSkip) (sSeq (sIte (sTest (sBin gEq (sVar 9) (sC (.int 3)))) (sRet (sTup (sCons (sC (.str [115, 112, 101, 99, 105, 97, 108])) (sCons (sVar 4) (sCons (sCall (callF 2 G_law_pick) (sCons (sVar 0) (sCons (sLst (sCons (sC (.str [116, 105, 100])) (sCons (sC (.str [98, 105, 100])) (sCons (sC (.str [100, 105, 109])) (sCons (sC (.str [103, 114, 105, 100])) sNil))))) sNil))) sNil))))) sSkip) (sSeq (sIte (sTest (sBin gEq (sVar 9) (sC (.int 4)))) (sRet (sTup (sCons (sC (.str [99, 111, 112, 121])) (sCons (sVar 4) (sCons (sVar 5) sNil))))) sSkip) (sSeq (sIte (sTest (sBin gEq (sVar 9) (sC (.int 5)))) (sRet (sTup (sCons (sC (.str [117, 110, 97, 114, 121])) (sCons (sCall (callF 2 G_law_pick) (sCons (sVar 0) (sCons (sCall (callF 1 G_law_operators) (sCons (sC (.str [117, 110, 97, 114, 121])) sNil)) sNil))) (sCons (sVar 4) (sCons (sVar 5) sNil)))))) sSkip) (sSeq (sIte (tAnd' (sTest (sBin gEq (sVar 9) (sC (.int 6)))) (sTru (sVar 8))) (sRet (sTup (sCons (sC (.str [108, 111, 97, 100])) (sCons (sVar 4) (sCons (sCall (callF 2 G_law_pick) (sCons (sVar 0) (sCons (sVar 8) sNil))) (sCons (sVar 5) sNil)))))) sSkip) (sSeq (sIte (tAnd' (sTest (sBin gEq (sVar 9) (sC (.int 7)))) (sTru (sVar 8))) (sRet (sTup (sCons (sC (.str [97, 116, 111, 109, 105, 99])) (sCons (sCall (callF 2 G_law_pick) (sCons (sVar 0) (sCons (sCall (callF 1 G_law_operators) (sCons (sC (.str [102, 111, 108, 100])) sNil)) sNil))) (sCons (sCall (callF 2 G_law_pick) (sCons (sVar 0) (sCons (sVar 8) sNil))) (sCons (sVar 5) (sCons (sVar 6) sNil))))))) sSkip) (sSeq (sIte (tAnd' (sTest (sBin gLt (sVar 9) (sC (.int 10)))) (sTru (sVar 8))) (sRet (sTup (sCons (sC (.str [115, 116, 111, 114, 101])) (sCons (sCall (callF 2 G_law_pick) (sCons (sVar 0) (sCons (sVar 8) sNil))) (sCons (sVar 5) (sCons (sVar 6) sNil)))))) sSkip) (sSeq (sIte (sTest (sBin gEq (sVar 9) (sC (.int 10)))) (sRet (sCall (callF 2 G_law_pick) (sCons (sVar 0) (sCons (sLst (sCons (sTup (sCons (sC (.str [98, 97, 114, 114, 105, 101, 114])) (sCons (sCall (callF 2 G_law_draw) (sCons (sVar 0) (sCons (sC (.int 3)) sNil))) sNil))) (sCons (sTup (sCons (sC (.str [99, 111, 108, 108, 101, 99, 116])) (sCons (sCall (callF 2 G_law_pick) (sCons (sVar 0) (sCons (sCall (callF 1 G_law_operators) (sCons (sC (.str [102, 111, 108, 100])) sNil)) sNil))) (sCons (sVar 4) (sCons (sVar 5) (sCons (sCall (callF 2 G_law_draw) (sCons (sVar 0) (sCons (sC (.int 3)) sNil))) sNil)))))) sNil))) sNil)))) sSkip) (sRet (sTup (sCons (sC (.str [98, 105, 110, 97, 114, 121])) (sCons (sCall (callF 2 G_law_pick) (sCons (sVar 0) (sCons (sCall (callF 1 G_law_operators) (sCons (sC (.str [98, 105, 110, 97, 114, 121])) sNil)) sNil))) (sCons (sVar 4) (sCons (sVar 5) (sCons (sVar 6) sNil))))))))))))))))))))))
def M_law_instruction : SF := sFn 4 11 M_law_instruction_b
def G_law_instruction : SF := M_law_instruction
theorem le_law_instruction : ∀ us h, G_law_instruction us h = .bad ∨ M_law_instruction us h = G_law_instruction us h := fun _ _ => .inr rfl
/-! ### _law_code -/
def M_law_code_1 : SS := (sSeq (sSet 7 (sCall (callF 2 G_law_draw) (sCons (sVar 0) (sCons (sC (.int 8)) sNil)))) (sIte (sTest (sBin gEq (sVar 6) (sBin gSub (sVar 4) (sC (.int 1))))) (sExpr (sMeth mAppend (sVar 5) (sCons (sIf (sTest (sBin gGt (sCall (callF 2 G_law_draw) (sCons (sVar 0) (sCons (sC (.int 5)) sNil))) (sC (.int 0)))) (sTup (sCons (sC (.str [101, 120, 105, 116])) sNil)) (sTup (sCons (sC (.str [106, 117, 109, 112])) (sCons (sCall (callF 2 G_law_draw) (sCons (sVar 0) (sCons (sVar 4) sNil))) sNil)))) sNil))) (sIte (sTest (sBin gEq (sVar 7) (sC (.int 0)))) (sExpr (sMeth mAppend (sVar 5) (sCons (sTup (sCons (sC (.str [98, 114, 97, 110, 99, 104])) (sCons (sCall (callF 2 G_law_draw) (sCons (sVar 0) (sCons (sC (.int 4)) sNil))) (sCons (sCall (callF 2 G_law_draw) (sCons (sVar 0) (sCons (sVar 4) sNil))) (sCons (sCall (callF 2 G_law_draw) (sCons (sVar 0) (sCons (sBin gAddX (sVar 4) (sC (.int 1))) sNil))) sNil))))) sNil))) (sIte (tAnd' (sTest (sBin gEq (sVar 7) (sC (.int 1)))) (sTest (sBin gGt (sVar 3) (sC (.int 0))))) (sExpr (sMeth mAppend (sVar 5) (sCons (sCall (callF 2 G_law_pick) (sCons (sVar 0) (sCons (sLst (sCons (sTup (sCons (sC (.str [103, 101, 116])) (sCons (sCall (callF 2 G_law_draw) (sCons (sVar 0) (sCons (sC (.int 8)) sNil))) (sCons (sCall (callF 2 G_law_draw) (sCons (sVar 0) (sCons (sVar 3) sNil))) sNil)))) (sCons (sTup (sCons (sC (.str [107, 101, 101, 112])) (sCons (sCall (callF 2 G_law_draw) (sCons (sVar 0) (sCons (sVar 3) sNil))) (sCons (sCall (callF 2 G_law_draw) (sCons (sVar 0) (sCons (sC (.int 8)) sNil))) sNil)))) sNil))) sNil))) sNil))) (sIte (tAnd' (sTest (sBin gEq (sVar 7) (sC (.int 2)))) (sTest (sBin gEq (sCall (callF 2 G_law_draw) (sCons (sVar 0) (sCons (sC (.int 3)) sNil))) (sC (.int 0))))) (sExpr (sMeth mAppend (sVar 5) (sCons (sCall (callF 2 G_law_pick) (sCons (sVar 0) (sCons (sLst (sCons (sTup (sCons (sC (.str [101, 120, 105, 116])) sNil)) (sCons (sTup (sCons (sC (.str [106, 117, 109, 112])) (sCons (sCall cMin (sCons (sBin gAddX (sVar 6) (sC (.int 2))) (sCons (sBin gSub (sVar 4) (sC (.int 1))) sNil))) sNil))) sNil))) sNil))) sNil))) (sExpr (sMeth mAppend (sVar 5) (sCons (sCall (callF 4 G_law_instruction) (sCons (sVar 0) (sCons (sVar 1) (sCons (sVar 2) (sCons (sCall (callF 2 G_law_pick) (sCons (sVar 0) (sCons (sLst (sCons (sC (.int 3)) (sCons (sC (.int 3)) (sCons (sC (.int 8)) sNil)))) sNil))) sNil))))) sNil))))))))
def M_law_code_b : SS := (sSeq (sSet 1 (sCall (callF 2 G_law_pick) (sCons (sVar 0) (sCons (sLst (sCons (sTup (sCons (sTup (sCons (sC (.str [110])) (sCons (sC (.str [105, 110, 116])) sNil))) (sCons (sTup (sCons (sC (.str [97])) (sCons (sC (.str [98, 117, 102, 102, 101, 114])) sNil))) sNil))) (sCons (sTup (sCons (sTup (sCons (sC (.str [97])) (sCons (sC (.str [98, 117, 102, 102, 101, 114])) sNil))) (sCons (sTup (sCons (sC (.str [110])) (sCons (sC (.str [105, 110, 116])) sNil))) (sCons (sTup (sCons (sC (.str [98])) (sCons (sC (.str [98, 117, 102, 102, 101, 114])) sNil))) sNil)))) (sCons (sTup (sCons (sTup (sCons (sC (.str [97])) (sCons (sC (.str [98, 117, 102, 102, 101, 114])) sNil))) sNil)) (sCons (sTup sNil) sNil))))) sNil)))) (sSeq (sSet 2 (sCall (callF 2 G_law_pick) (sCons (sVar 0) (sCons (sLst (sCons (sTup sNil) (sCons (sTup sNil) (sCons (sTup (sCons (sTup (sCons (sC (.str [115])) (sCons (sC (.int 3)) sNil))) sNil)) (sCons (sTup (sCons (sTup (sCons (sC (.str [115])) (sCons (sC (.int 2)) sNil))) (sCons (sTup (sCons (sC (.str [114])) (sCons (sC (.int 1)) sNil))) sNil))) sNil))))) sNil)))) (sSeq (sSet 3 (sCall (callF 2 G_law_draw) (sCons (sVar 0) (sCons (sC (.int 4)) sNil)))) (sSeq (sSet 4 (sBin gAddX (sC (.int 1)) (sCall (callF 2 G_law_draw) (sCons (sVar 0) (sCons (sC (.int 12)) sNil))))) (sSeq (sSet 5 (sLstN sNil)) (sSeq (sFor (iRange1 (sVar 4)) (gNm 6) M_law_code_1) (sRet (sTup (sCons (sVar 1) (sCons (sVar 2) (sCons (sVar 3) (sCons (sCall cTup (sCons (sVar 5) sNil)) sNil))))))))))))
def M_law_code : SF := sFn 1 8 M_law_code_b
def G_law_code : SF := M_law_code
theorem le_law_code : ∀ us h, G_law_code us h = .bad ∨ M_law_code us h = G_law_code us h := fun _ _ => .inr rfl
/-! ### _law_launch -/
def M_law_launch_b : SS := (sSeq (sSet 2 (sCall cTup (sCons (sLc [4] (iRange1 (sBin gAddX (sC (.int 1)) (sCall (callF 2 G_law_draw) (sCons (sVar 0) (sCons (sC (.int 3)) sNil))))) (gNm 4) tTrue (sCall cTup (sCons (sLc [7] (iRange1 (sCall (callF 2 G_law_draw) (sCons (sVar 0) (sCons (sC (.int 6)) sNil)))) (gNm 7) tTrue (sCall (callF 1 G_law_word) (sCons (sVar 0) sNil))) sNil))) sNil))) (sSeq (sSet 3 (sCall cTup (sCons (sLc [5, 6] (iVal (sBin gIxD (sVar 1) (sC (.int 0)))) (gTp [5, 6]) tTrue (sIf (sTest (sBin gEq (sVar 6) (sC (.str [105, 110, 116])))) (sCall (callF 2 G_law_pick) (sCons (sVar 0) (sCons (sLst (sCons (sC (.int 0)) (sCons (sC (.int 1)) (sCons (sC (.int 2)) (sCons (sC (.int 3)) (sCons (sCall (callF 1 G_law_word) (sCons (sVar 0) sNil)) sNil)))))) sNil))) (sCall (callF 2 G_law_draw) (sCons (sVar 0) (sCons (sCall cLen (sCons (sVar 2) sNil)) sNil))))) sNil))) (sRet (sTup (sCons (sBin gAddX (sC (.int 1)) (sCall (callF 2 G_law_draw) (sCons (sVar 0) (sCons (sC (.int 2)) sNil)))) (sCons (sBin gAddX (sC (.int 1)) (sCall (callF 2 G_law_draw) (sCons (sVar 0) (sCons (sC (.int 3)) sNil)))) (sCons (sVar 3) (sCons (sVar 2) sNil))))))))
def M_law_launch : SF := sFn 2 8 M_law_launch_b
def G_law_launch : SF := M_law_launch
theorem le_law_launch : ∀ us h, G_law_launch us h = .bad ∨ M_law_launch us h = G_law_launch us h := fun _ _ => .inr rfl
/-! ### first_lane -/
def M_first_lane_b : SS := (sRet (sTup (sCons (sC (.int 0)) (sCons (sBin gMulX (sTup (sCons (sC (.int 0)) sNil)) (sC c_REGISTERS)) (sCons (sBin gMulX (sTup (sCons (sC (.int 0)) sNil)) (sBin gIxD (sVar 0) (sC (.int 2)))) sNil)))))
def M_first_lane : SF := sFn 1 1 M_first_lane_b
def G_first_lane : SF := trunc M_first_lane
theorem le_first_lane : ∀ us h, G_first_lane us h = .bad ∨ trunc M_first_lane us h = G_first_lane us h := fun _ _ => .inr rfl
/-! ### _law_same -/
section
variable (G_law_same : SF)
def M_law_same_b : SS := (sSeq (sIte (tOr' (sTru (sUn (gIsi (fun k => k == 4)) (sVar 1))) (sTru (sUn (gIsi (fun k => k == 5)) (sVar 1)))) (sSeq (sIte (tOr' (sTest (sBin gNe (sUn (gIsi (fun k => k == 4)) (sVar 0)) (sUn (gIsi (fun k => k == 4)) (sVar 1)))) (sTest (sBin gNe (sUn (gIsi (fun k => k == 5)) (sVar 0)) (sUn (gIsi (fun k => k == 5)) (sVar 1))))) (sRet (sC (.bl false))) sSkip) (sRet (sAnd (sBin gEq (sCall cLen (sCons (sVar 0) sNil)) (sCall cLen (sCons (sVar 1) sNil))) (sCall cAll (sCons (sLc [2] (iRange1 (sCall cLen (sCons (sVar 1) sNil))) (gNm 2) tTrue (sCall (callF 2 G_law_same) (sCons (sBin gIxD (sVar 0) (sVar 2)) (sCons (sBin gIxD (sVar 1) (sVar 2)) sNil)))) sNil))))) sSkip) (sSeq (sIte (sTest (sBin gIsN (sVar 1) (sC .non))) (sRet (sBin gIsN (sVar 0) (sC .non))) sSkip) (sSeq (sIte (sTru (sUn (gIsi (fun k => k == 3)) (sVar 1))) (sRet (sAnd (sUn (gIsi (fun k => k == 3)) (sVar 0)) (sBin gEq (sVar 0) (sVar 1)))) sSkip) (sRet (sAnd (sUn (gIsi (fun k => k == 2 || k == 1)) (sVar 0)) (sAnd (sBin gEq (sUn (gIsi (fun k => k == 1)) (sVar 0)) (sUn (gIsi (fun k => k == 1)) (sVar 1))) (sBin gEq (sVar 0) (sVar 1))))))))
def M_law_same : SF := sFn 2 3 (M_law_same_b G_law_same)
end
/-- a value of at most so many layers that no cell is -/
def okD : Nat → Val → Bool
  | _, .non => true
  | _, .bl _ => true
  | _, .int _ => true
  | _, .str _ => true
  | d + 1, .tup vs => vs.all (okD d) && decide (vs.length ≤ 1000000)
  | d + 1, .fl vs => vs.all (okD d) && decide (vs.length ≤ 1000000)
  | _, _ => false
open Classical in
def GD_law_same (d : Nat) : SF := fun us h => match us with
  | [a, b] => if okD d b = true ∧ a = b then .ok (.bl true) h else .bad
  | _ => .bad
theorem same_flat {g : SF} {v : Val} {h : Hv} (hv : okD 0 v = true) : M_law_same g [v, v] h = .ok (.bl true) h := by
  cases v with
  | non => rfl
  | bl b => simp [M_law_same, M_law_same_b, List.replicate]
  | int i => simp [M_law_same, M_law_same_b, List.replicate]
  | str x =>
    have e : M_law_same g [.str x, .str x] h = .ok (.bl (decide (x = x))) h := rfl
    rw [e, decide_eq_true rfl]
  | _ => cases hv
theorem all_true {n : Nat} {h : Hv} : cAll [.fl (List.replicate n (.bl true))] h = .ok (.bl true) h := by
  have e : ∀ n : Nat, blsOf (List.replicate n (Val.bl true)) = some (List.replicate n true) := fun n => by
    induction n with
    | zero => rfl
    | succ n ih => rw [List.replicate_succ, List.replicate_succ]; unfold blsOf; rw [ih]; rfl
  show gBls (fun bs => bs.all id) (.fl (List.replicate n (.bl true))) h = _
  simp [gBls, e]
theorem same_rows {d : Nat} {x : Val} {vs : List Val} {h : Hv} (hx : ∀ (i : Nat) h, i < vs.length → gIxD x (.int i) h = .ok (vs.getD i .non) h) (hv : vs.all (okD d) = true) (hl : vs.length ≤ 1000000) :
    sLcL (gNm 2) tTrue (sCall (callF 2 (GD_law_same d)) (sCons (sBin gIxD (sVar 0) (sVar 2)) (sCons (sBin gIxD (sVar 1) (sVar 2)) sNil))) [some x, some x, none] 0 (rangeV 0 vs.length) h = .ok (List.replicate vs.length (.bl true)) h := by
  have e := lcL_map (g := gNm 2) (t := tTrue) (e := sCall (callF 2 (GD_law_same d)) (sCons (sBin gIxD (sVar 0) (sVar 2)) (sCons (sBin gIxD (sVar 1) (sVar 2)) sNil))) (sv := [some x, some x, none]) (h := h) (F := fun _ => .bl true) (rangeV 0 vs.length) 0 (fun v hv' => by
    obtain ⟨i, hi, rfl⟩ : ∃ i : Nat, i < vs.length ∧ v = .int i := by
      unfold rangeV at hv'
      obtain ⟨i, hi, e⟩ := List.mem_map.mp hv'
      exact ⟨i, List.mem_range.mp hi, by rw [← e]; simp⟩
    refine ⟨_, rfl, rfl, ?_⟩
    have hok : okD d (vs.getD i .non) = true := by
      rw [List.getD_eq_getElem?_getD, List.getElem?_eq_getElem hi]
      exact List.all_eq_true.mp hv _ (List.getElem_mem hi)
    have g : GD_law_same d [vs.getD i .non, vs.getD i .non] h = .ok (.bl true) h := if_pos ⟨hok, rfl⟩
    simp only [sCall_app, sCons_app, sBin_app, sVar_app, List.set_cons_succ, List.set_cons_zero, List.getElem?_cons_succ, List.getElem?_cons_zero, getV_some, bind_ok, hx i h hi, sNil_app, callF_2, g, noX_ok]) (by rw [show (rangeV 0 vs.length).length = vs.length by simp [rangeV]]; omega)
  rw [e]
  have : (rangeV 0 vs.length).map (fun _ => Val.bl true) = List.replicate vs.length (.bl true) := by
    rw [List.map_const']
    simp [rangeV]
  rw [this]
theorem len_range {x : Val} {n : Nat} {h : Hv} (hn : n ≤ 1000000) (hl : cLen [x] h = .ok (.int n) h) : iRange1 (sCall cLen (sCons (sVar 1) sNil)) [some x, some x, none] h = .ok (rangeV 0 n) h := by
  rw [iRange1_app, sCall_app, sCons_app, sVar_app]
  show R.bind (R.bind (R.bind (R.bind (getV (some (some x)) h) _) _) _) _ = _
  rw [getV_some, bind_ok]
  show R.bind (R.bind (R.ok [x] h) _) _ = _
  rw [bind_ok, hl, bind_ok, rg1K_of (Nat.lt_of_le_of_lt hn (by decide))]
theorem same_and {d n : Nat} {x : Val} {h : Hv} (hn : n ≤ 1000000) (hl : ∀ h, cLen [x] h = .ok (.int n) h)
    (rows : sLcL (gNm 2) tTrue (sCall (callF 2 (GD_law_same d)) (sCons (sBin gIxD (sVar 0) (sVar 2)) (sCons (sBin gIxD (sVar 1) (sVar 2)) sNil))) [some x, some x, none] 0 (rangeV 0 n) h = .ok (List.replicate n (.bl true)) h) :
    sAnd (sBin gEq (sCall cLen (sCons (sVar 0) sNil)) (sCall cLen (sCons (sVar 1) sNil))) (sCall cAll (sCons (sLc [2] (iRange1 (sCall cLen (sCons (sVar 1) sNil))) (gNm 2) tTrue (sCall (callF 2 (GD_law_same d)) (sCons (sBin gIxD (sVar 0) (sVar 2)) (sCons (sBin gIxD (sVar 1) (sVar 2)) sNil)))) sNil)) [some x, some x, none] h = .ok (.bl true) h := by
  have e1 : sBin gEq (sCall cLen (sCons (sVar 0) sNil)) (sCall cLen (sCons (sVar 1) sNil)) [some x, some x, none] h = .ok (.bl true) h := by simp [hl]
  have hr := len_range hn (hl h)
  have at' := fun h => all_true (n := n) (h := h)
  have e2 : sCall cAll (sCons (sLc [2] (iRange1 (sCall cLen (sCons (sVar 1) sNil))) (gNm 2) tTrue (sCall (callF 2 (GD_law_same d)) (sCons (sBin gIxD (sVar 0) (sVar 2)) (sCons (sBin gIxD (sVar 1) (sVar 2)) sNil)))) sNil) [some x, some x, none] h = .ok (.bl true) h := by simp [hr, rows, wipeE, at', -iRange1_app]
  rw [sAnd_app, e1, bind_ok, andK_bl, if_pos rfl, e2]
theorem same_tup {d : Nat} {vs : List Val} {h : Hv} (hv : okD (d + 1) (.tup vs) = true) : M_law_same (GD_law_same d) [.tup vs, .tup vs] h = .ok (.bl true) h := by
  simp only [okD, Bool.and_eq_true, decide_eq_true_eq] at hv
  have hx := same_and (x := .tup vs) (h := h) hv.2 (fun _ => rfl) (same_rows (d := d) (x := .tup vs) (h := h) (fun i h hi => ixK_nat (by rw [List.getD_eq_getElem?_getD, List.getElem?_eq_getElem hi]; rfl)) hv.1 hv.2)
  simp [M_law_same, M_law_same_b, List.replicate, hx, -sAnd_app]
theorem same_fl {d : Nat} {vs : List Val} {h : Hv} (hv : okD (d + 1) (.fl vs) = true) : M_law_same (GD_law_same d) [.fl vs, .fl vs] h = .ok (.bl true) h := by
  simp only [okD, Bool.and_eq_true, decide_eq_true_eq] at hv
  have hx := same_and (x := .fl vs) (h := h) hv.2 (fun _ => rfl) (same_rows (d := d) (x := .fl vs) (h := h) (fun i h hi => ixK_nat (by rw [List.getD_eq_getElem?_getD, List.getElem?_eq_getElem hi]; rfl)) hv.1 hv.2)
  simp [M_law_same, M_law_same_b, List.replicate, hx, -sAnd_app]
theorem same_deep {d : Nat} {v : Val} {h : Hv} (hv : okD (d + 1) v = true) : M_law_same (GD_law_same d) [v, v] h = .ok (.bl true) h := by
  cases v with
  | tup vs => exact same_tup hv
  | fl vs => exact same_fl hv
  | non => exact same_flat rfl
  | bl _ => exact same_flat rfl
  | int _ => exact same_flat rfl
  | str _ => exact same_flat rfl
  | _ => cases hv
theorem le_law_same_0 (g : SF) : ∀ us h, GD_law_same 0 us h = .bad ∨ M_law_same g us h = GD_law_same 0 us h
  | [a, b], h => by
    by_cases hh : okD 0 b = true ∧ a = b
    · have e : GD_law_same 0 [a, b] h = .ok (.bl true) h := if_pos hh
      rw [e]
      obtain ⟨h1, rfl⟩ := hh
      exact .inr (same_flat h1)
    · exact .inl (if_neg hh)
  | [], _ => .inl rfl
  | [_], _ => .inl rfl
  | _ :: _ :: _ :: _, _ => .inl rfl
theorem le_law_same_s (d : Nat) : ∀ us h, GD_law_same (d + 1) us h = .bad ∨ M_law_same (GD_law_same d) us h = GD_law_same (d + 1) us h
  | [a, b], h => by
    by_cases hh : okD (d + 1) b = true ∧ a = b
    · have e : GD_law_same (d + 1) [a, b] h = .ok (.bl true) h := if_pos hh
      rw [e]
      obtain ⟨h1, rfl⟩ := hh
      exact .inr (same_deep h1)
    · exact .inl (if_neg hh)
  | [], _ => .inl rfl
  | [_], _ => .inl rfl
  | _ :: _ :: _ :: _, _ => .inl rfl
def G_law_same : SF := GD_law_same 3
theorem same_ok {v : Val} {h : Hv} (hv : okD 3 v = true) : G_law_same [v, v] h = .ok (.bl true) h := if_pos ⟨hv, rfl⟩
/-! ### _law_request -/
def M_law_request_b : SS := (sSeq (sSet 2 (sBin gIxD (sBin gIxD (sVar 0) (sC (.int 3))) (sBin gIxD (sVar 1) (sC (.int 0))))) (sSeq (sSet 3 (sBin gIxD (sVar 1) (sC (.int 1)))) (sSeq (sIte (sTest (sBin gEq (sBin gIxD (sVar 2) (sC (.int 0))) (sC (.str [108, 111, 97, 100])))) (sRet (sTup (sCons (sC (.str [108, 111, 97, 100])) (sCons (sBin gIxD (sVar 2) (sC (.int 2))) (sCons (sBin gIxD (sVar 3) (sBin gIxD (sVar 2) (sC (.int 3)))) sNil))))) sSkip) (sSeq (sIte (sTest (sBin gEq (sBin gIxD (sVar 2) (sC (.int 0))) (sC (.str [115, 116, 111, 114, 101])))) (sRet (sTup (sCons (sC (.str [115, 116, 111, 114, 101])) (sCons (sBin gIxD (sVar 2) (sC (.int 1))) (sCons (sBin gIxD (sVar 3) (sBin gIxD (sVar 2) (sC (.int 2)))) (sCons (sBin gIxD (sVar 3) (sBin gIxD (sVar 2) (sC (.int 3)))) sNil)))))) sSkip) (sSeq (sIte (sTest (sBin gEq (sBin gIxD (sVar 2) (sC (.int 0))) (sC (.str [97, 116, 111, 109, 105, 99])))) (sRet (sTup (sCons (sC (.str [97, 116, 111, 109, 105, 99])) (sCons (sBin gIxD (sVar 2) (sC (.int 1))) (sCons (sBin gIxD (sVar 2) (sC (.int 2))) (sCons (sBin gIxD (sVar 3) (sBin gIxD (sVar 2) (sC (.int 3)))) (sCons (sBin gIxD (sVar 3) (sBin gIxD (sVar 2) (sC (.int 4)))) sNil))))))) sSkip) (sSeq (sIte (sTest (sBin gEq (sBin gIxD (sVar 2) (sC (.int 0))) (sC (.str [98, 97, 114, 114, 105, 101, 114])))) (sRet (sTup (sCons (sC (.str [98, 97, 114, 114, 105, 101, 114])) (sCons (sBin gIxD (sVar 2) (sC (.int 1))) sNil)))) sSkip) (sSeq (sIte (sTest (sBin gEq (sBin gIxD (sVar 2) (sC (.int 0))) (sC (.str [99, 111, 108, 108, 101, 99, 116])))) (sRet (sTup (sCons (sC (.str [99, 111, 108, 108, 101, 99, 116])) (sCons (sBin gIxD (sVar 2) (sC (.int 1))) (sCons (sBin gIxD (sVar 3) (sBin gIxD (sVar 2) (sC (.int 3)))) (sCons (sBin gIxD (sVar 2) (sC (.int 4))) sNil)))))) sSkip) (sRet (sIf (sTest (sBin gEq (sBin gIxD (sVar 2) (sC (.int 0))) (sC (.str [101, 120, 105, 116])))) (sTup (sCons (sC (.str [101, 120, 105, 116])) sNil)) (sTup (sCons (sC (.str [110, 111, 110, 101])) sNil)))))))))))
def M_law_request : SF := sFn 2 4 M_law_request_b
def G_law_request : SF := trunc M_law_request
theorem le_law_request : ∀ us h, G_law_request us h = .bad ∨ trunc M_law_request us h = G_law_request us h := fun _ _ => .inr rfl
/-! ### request -/
def M_request_b : SS := (sSeq (sAsg (sVar 1) (gTp [2, 3, 4])) (sSeq (sSet 5 (sBin gIxD (sBin gIxD (sVar 0) (sC (.int 3))) (sVar 2))) (sSeq (sSet 6 (sBin gIxD (sVar 5) (sC (.int 0)))) (sSeq (sIte (sTest (sBin gEq (sVar 6) (sC (.str [108, 111, 97, 100])))) (sRet (sTup (sCons (sC (.str [108, 111, 97, 100])) (sCons (sBin gIxD (sVar 5) (sC (.int 2))) (sCons (sBin gIxD (sVar 3) (sBin gIxD (sVar 5) (sC (.int 3)))) sNil))))) sSkip) (sSeq (sIte (sTest (sBin gEq (sVar 6) (sC (.str [115, 116, 111, 114, 101])))) (sRet (sTup (sCons (sC (.str [115, 116, 111, 114, 101])) (sCons (sBin gIxD (sVar 5) (sC (.int 1))) (sCons (sBin gIxD (sVar 3) (sBin gIxD (sVar 5) (sC (.int 2)))) (sCons (sBin gIxD (sVar 3) (sBin gIxD (sVar 5) (sC (.int 3)))) sNil)))))) sSkip) (sSeq (sIte (sTest (sBin gEq (sVar 6) (sC (.str [97, 116, 111, 109, 105, 99])))) (sRet (sTup (sCons (sC (.str [97, 116, 111, 109, 105, 99])) (sCons (sBin gIxD (sVar 5) (sC (.int 1))) (sCons (sBin gIxD (sVar 5) (sC (.int 2))) (sCons (sBin gIxD (sVar 3) (sBin gIxD (sVar 5) (sC (.int 3)))) (sCons (sBin gIxD (sVar 3) (sBin gIxD (sVar 5) (sC (.int 4)))) sNil))))))) sSkip) (sSeq (sIte (sTest (sBin gIn (sVar 6) (sTup (sCons (sC (.str [98, 97, 114, 114, 105, 101, 114])) (sCons (sC (.str [101, 120, 105, 116])) sNil))))) (sRet (sVar 5)) sSkip) (sSeq (sIte (sTest (sBin gEq (sVar 6) (sC (.str [99, 111, 108, 108, 101, 99, 116])))) (sRet (sTup (sCons (sC (.str [99, 111, 108, 108, 101, 99, 116])) (sCons (sBin gIxD (sVar 5) (sC (.int 1))) (sCons (sBin gIxD (sVar 3) (sBin gIxD (sVar 5) (sC (.int 3)))) (sCons (sBin gIxD (sVar 5) (sC (.int 4))) sNil)))))) sSkip) (sRet (sTup (sCons (sC (.str [110, 111, 110, 101])) sNil)))))))))))
def M_request : SF := sFn 2 7 M_request_b
def G_request : SF := trunc M_request
theorem le_request : ∀ us h, G_request us h = .bad ∨ trunc M_request us h = G_request us h := fun _ _ => .inr rfl
/-! ### _law_wrapped -/
def M_law_wrapped_b : SS := (sRet (sBin gSub (sBin gMod (sCall cInt (sCons (sBin gAddX (sVar 0) (sC (.int 2147483648))) sNil)) (sC (.int 4294967296))) (sC (.int 2147483648))))
def M_law_wrapped : SF := sFn 1 1 M_law_wrapped_b
def G_law_wrapped : SF := fun us h => match us with
  | [.int n] => .ok (.int (wrapW n)) h
  | _ => .bad
theorem le_law_wrapped : ∀ us h, G_law_wrapped us h = .bad ∨ M_law_wrapped us h = G_law_wrapped us h := by
  intro us h
  unfold G_law_wrapped
  split
  · rename_i n
    right
    simp [M_law_wrapped, M_law_wrapped_b, List.replicate, wrap_law]
  · exact .inl rfl
@[simp] theorem G_law_wrapped_int {n : Int} {h : Hv} : G_law_wrapped [.int n] h = .ok (.int (wrapW n)) h := rfl
/-! ### _law_unary -/
def M_law_unary_b : SS := (sSeq (sIte (sTest (sBin gEq (sVar 0) (sC (.str [122, 101, 114, 111])))) (sRet (sCall cInt (sCons (sBin gEq (sVar 1) (sC (.int 0))) sNil))) sSkip) (sRet (sCall (callF 1 G_law_wrapped) (sCons (sIf (sTest (sBin gEq (sVar 0) (sC (.str [110, 101, 103])))) (sUn gNeg (sVar 1)) (sBin gSub (sUn gNeg (sC (.int 1))) (sVar 1))) sNil))))
def M_law_unary : SF := sFn 2 2 M_law_unary_b
def G_law_unary : SF := fun us h => match us with
  | [.str op, .int a] => if op ∈ UNS then .ok (.int (unW op a)) h else .bad
  | _ => .bad
theorem le_law_unary : ∀ us h, G_law_unary us h = .bad ∨ M_law_unary us h = G_law_unary us h := by
  intro us h
  unfold G_law_unary
  split
  · rename_i op a
    split
    · right
      rename_i ho
      have e : (-1 - a) = (-a - 1) := by omega
      simp only [UNS, List.mem_cons, List.not_mem_nil, or_false] at ho
      rcases ho with rfl | rfl | rfl <;> simp [M_law_unary, M_law_unary_b, List.replicate, unW, t_neg, t_not, t_zero, b2, e]
    · exact .inl rfl
  · exact .inl rfl
theorem G_law_unary_of {op : List Nat} {a : Int} {h : Hv} (ho : op ∈ UNS) : G_law_unary [.str op, .int a] h = .ok (.int (unW op a)) h := if_pos ho
/-! ### _law_bits -/
def M_law_bits_1 : SS := (sSeq (sSet 6 (sBin gMod (sBin gDiv (sVar 1) (sVar 4)) (sC (.int 2)))) (sSeq (sSet 7 (sBin gMod (sBin gDiv (sVar 2) (sVar 4)) (sC (.int 2)))) (sSeq (sSet 8 (sIf (sTest (sBin gEq (sVar 0) (sC (.str [97, 110, 100])))) (sBin gMulX (sVar 6) (sVar 7)) (sIf (sTest (sBin gEq (sVar 0) (sC (.str [111, 114])))) (sCall cMax (sCons (sVar 6) (sCons (sVar 7) sNil))) (sBin gMod (sBin gAddX (sVar 6) (sVar 7)) (sC (.int 2)))))) (sSeq (sSet 3 (sBin gAddX (sVar 3) (sBin gMulX (sVar 8) (sVar 4)))) (sSet 4 (sBin gMulX (sVar 4) (sC (.int 2))))))))
def M_law_bits_b : SS := (sSeq (sSet 3 (sC (.int 0))) (sSeq (sSet 4 (sC (.int 1))) (sSeq (sFor (iRange1 (sC (.int 32))) (gNm 5) M_law_bits_1) (sRet (sCall (callF 1 G_law_wrapped) (sCons (sVar 3) sNil))))))
def M_law_bits : SF := sFn 3 9 M_law_bits_b
def bitf (op : List Nat) : Int → Int → Int := if op = t_and then fAnd else if op = t_or then fOr else fXor
theorem bit_one {op : List Nat} {o d e f : Option Val} {x y z p : Int} {h : Hv} (p0 : 0 < p) (p1 : p < 1000000000000) (p2 : (-18446744073709551616 : Int) < p) (p3 : p < 18446744073709551616) (r1 : (-18446744073709551616 : Int) < y / p % 2) (r2 : y / p % 2 < 18446744073709551616)
    (hmax : (if x / p % 2 < y / p % 2 then y / p % 2 else x / p % 2) = (if y / p % 2 < x / p % 2 then x / p % 2 else y / p % 2)) :
    M_law_bits_1 [some (.str op), some (.int x), some (.int y), some (.int z), some (.int p), o, d, e, f] h =
      .ok (.nx [some (.str op), some (.int x), some (.int y), some (.int (z + bitf op (x / p % 2) (y / p % 2) * p)), some (.int (p * 2)), o, some (.int (x / p % 2)), some (.int (y / p % 2)), some (.int (bitf op (x / p % 2) (y / p % 2)))]) h := by
  by_cases h1 : op = t_and
  · subst h1
    simp [M_law_bits_1, p0, p1, p2, p3, r1, r2, t_and, bitf, fAnd]
  · by_cases h2 : op = t_or
    · subst h2
      simp [M_law_bits_1, p0, p1, p2, p3, r1, r2, t_and, t_or, bitf, fOr, hmax]
    · simp only [bitf, if_neg h1, if_neg h2]
      simp only [t_and, t_or] at h1 h2
      simp [M_law_bits_1, p0, p1, p2, p3, r1, r2, h1, h2, fXor]
theorem bit_facts (x y p : Int) (p0 : 0 < p) (p1 : p < 1000000000000) : (-18446744073709551616 : Int) < p ∧ p < 18446744073709551616 ∧ (-18446744073709551616 : Int) < y / p % 2 ∧ y / p % 2 < 18446744073709551616 ∧
    (if x / p % 2 < y / p % 2 then y / p % 2 else x / p % 2) = (if y / p % 2 < x / p % 2 then x / p % 2 else y / p % 2) := by
  have q1 := m2 (x / p)
  have q2 := m2 (y / p)
  refine ⟨by omega, by omega, by omega, by omega, ?_⟩
  repeat' split
  all_goals omega
theorem bit_step {op : List Nat} {d e f : Option Val} {x y : Int} {k : Nat} (hk : k < 32) {h : Hv} :
    M_law_bits_1 [some (.str op), some (.int x), some (.int y), some (.int (F (bitf op) k x y)), some (.int (2 ^ k)), some (.int k), d, e, f] h =
      .ok (.nx [some (.str op), some (.int x), some (.int y), some (.int (F (bitf op) (k + 1) x y)), some (.int (2 ^ (k + 1))), some (.int k), some (.int (x / 2 ^ k % 2)), some (.int (y / 2 ^ k % 2)), some (.int (bitf op (x / 2 ^ k % 2) (y / 2 ^ k % 2)))]) h := by
  obtain ⟨p0, p1⟩ := pow_small hk
  obtain ⟨p2, p3, r1, r2, hm⟩ := bit_facts x y _ p0 p1
  have ep : (2 : Int) ^ (k + 1) = (2 : Int) ^ k * 2 := Int.pow_succ ..
  rw [F_end (bitf op) k x y, ep]
  exact bit_one p0 p1 p2 p3 r1 r2 hm
def G_law_bits : SF := fun us h => match us with
  | [.str op, .int a, .int b] => if isW a ∧ isW b then .ok (.int (wrapW (F (bitf op) 32 a b))) h else .bad
  | _ => .bad
theorem bitf_bit (op : List Nat) : Bit (bitf op) := by
  unfold bitf
  split
  · exact bit_and
  · split
    · exact bit_or
    · exact bit_xor
theorem le_law_bits : ∀ us h, G_law_bits us h = .bad ∨ M_law_bits us h = G_law_bits us h := by
  intro us h
  unfold G_law_bits
  split
  · rename_i op a b
    split
    · right
      rename_i hw
      obtain ⟨f, h', e, s', rfl, ⟨c, d, e', f', rfl⟩, rfl⟩ := for_ok (g := gNm 5) (b := M_law_bits_1) (xs := rangeV 0 (32 : Int).toNat) (sv := [some (.str op), some (.int a), some (.int b), some (.int 0), some (.int 1), none, none, none, none]) (h := h)
        (fun i s h' => (∃ c d e f, s = [some (.str op), some (.int a), some (.int b), some (.int (F (bitf op) i a b)), some (.int (2 ^ i)), c, d, e, f]) ∧ h' = h) ⟨⟨_, _, _, _, rfl⟩, rfl⟩ (fun i v s h' hv ⟨⟨c, d, e, f, es⟩, eh⟩ => by
          subst es eh
          have hi : i < 32 := by
            have := (List.getElem?_eq_some_iff.mp hv).1
            simpa [rangeV] using this
          have ev : v = .int i := by
            have : (rangeV 0 (32 : Int).toNat)[i]? = some (.int i) := by
              unfold rangeV
              rw [List.getElem?_map, List.getElem?_range (by simpa using hi)]
              simp
            rw [this] at hv
            exact (Option.some.inj hv).symm
          subst ev
          have q := bit_step (op := op) (x := a) (y := b) (d := d) (e := e) (f := f) hi (h := h')
          exact ⟨_, _, rfl, _, _, q, _, .inl rfl, ⟨_, _, _, _, rfl⟩, rfl⟩)
      have hl : (rangeV 0 (32 : Int).toNat).length = 32 := by simp [rangeV]
      rw [hl] at e
      simp [M_law_bits, M_law_bits_b, List.replicate]
      simp at e
      rw [e]
      simp
    · exact .inl rfl
  · exact .inl rfl
theorem G_law_bits_of {op : List Nat} {a b : Int} {h : Hv} (ha : isW a) (hb : isW b) : G_law_bits [.str op, .int a, .int b] h = .ok (.int (wrapW (F (bitf op) 32 a b))) h := if_pos ⟨ha, hb⟩
/-! ### _law_binary -/
def M_law_binary_1 : SS := (sSet 4 (sBin gMulX (sVar 4) (sC (.int 2))))
def M_law_binary_b : SS := (sSeq (sIte (sTest (sBin gIn (sVar 0) (sLst (sCons (sC (.str [100, 105, 118])) (sCons (sC (.str [114, 101, 109])) sNil))))) (sSeq (sSet 3 (sIf (sTest (sBin gEq (sVar 2) (sC (.int 0)))) (sC (.int 0)) (sBin gMulX (sBin gDiv (sCall cAbs (sCons (sVar 1) sNil)) (sCall cAbs (sCons (sVar 2) sNil))) (sIf (sTest (sBin gEq (sBin gLt (sVar 1) (sC (.int 0))) (sBin gLt (sVar 2) (sC (.int 0))))) (sC (.int 1)) (sUn gNeg (sC (.int 1))))))) (sRet (sCall (callF 1 G_law_wrapped) (sCons (sIf (sTest (sBin gEq (sVar 0) (sC (.str [100, 105, 118])))) (sVar 3) (sIf (sTest (sBin gEq (sVar 2) (sC (.int 0)))) (sC (.int 0)) (sBin gSub (sVar 1) (sBin gMulX (sVar 2) (sVar 3))))) sNil)))) sSkip) (sSeq (sIte (sTest (sBin gIn (sVar 0) (sLst (sCons (sC (.str [115, 104, 108])) (sCons (sC (.str [115, 104, 114])) sNil))))) (sSeq (sSet 4 (sC (.int 1))) (sSeq (sFor (iRange1 (sBin gMod (sVar 2) (sC (.int 32)))) (gNm 5) M_law_binary_1) (sRet (sCall (callF 1 G_law_wrapped) (sCons (sIf (sTest (sBin gEq (sVar 0) (sC (.str [115, 104, 108])))) (sBin gMulX (sVar 1) (sVar 4)) (sBin gDiv (sVar 1) (sVar 4))) sNil))))) sSkip) (sSeq (sIte (sTest (sBin gIn (sVar 0) (sLst (sCons (sC (.str [108, 116])) (sCons (sC (.str [108, 101])) (sCons (sC (.str [101, 113])) (sCons (sC (.str [110, 101])) sNil))))))) (sRet (sCall cInt (sCons (sBin gIxD (sLst (sCons (sBin gLt (sVar 1) (sVar 2)) (sCons (sBin gLe (sVar 1) (sVar 2)) (sCons (sBin gEq (sVar 1) (sVar 2)) (sCons (sBin gNe (sVar 1) (sVar 2)) sNil))))) (sMeth mIndex (sLst (sCons (sC (.str [108, 116])) (sCons (sC (.str [108, 101])) (sCons (sC (.str [101, 113])) (sCons (sC (.str [110, 101])) sNil))))) (sCons (sVar 0) sNil))) sNil))) sSkip) (sSeq (sIte (sTest (sBin gIn (sVar 0) (sLst (sCons (sC (.str [97, 110, 100])) (sCons (sC (.str [111, 114])) (sCons (sC (.str [120, 111, 114])) sNil)))))) (sRet (sCall (callF 3 G_law_bits) (sCons (sVar 0) (sCons (sVar 1) (sCons (sVar 2) sNil))))) sSkip) (sSeq (sIte (sTest (sBin gIn (sVar 0) (sLst (sCons (sC (.str [109, 105, 110])) (sCons (sC (.str [109, 97, 120])) sNil))))) (sRet (sIf (sTest (sBin gEq (sVar 0) (sC (.str [109, 105, 110])))) (sCall cMin (sCons (sVar 1) (sCons (sVar 2) sNil))) (sCall cMax (sCons (sVar 1) (sCons (sVar 2) sNil))))) sSkip) (sRet (sCall (callF 1 G_law_wrapped) (sCons (sIf (sTest (sBin gEq (sVar 0) (sC (.str [97, 100, 100])))) (sBin gAddX (sVar 1) (sVar 2)) (sIf (sTest (sBin gEq (sVar 0) (sC (.str [115, 117, 98])))) (sBin gSub (sVar 1) (sVar 2)) (sBin gMulX (sVar 1) (sVar 2)))) sNil))))))))
def M_law_binary : SF := sFn 3 6 M_law_binary_b
theorem pow_step {x0 x1 x2 x3 c : Option Val} {p : Int} {h : Hv} : M_law_binary_1 [x0, x1, x2, x3, some (.int p), c] h = .ok (.nx [x0, x1, x2, x3, some (.int (p * 2)), c]) h := by
  simp [M_law_binary_1]
theorem pow_loop (x0 x1 x2 x3 c : Option Val) (n : Nat) (h : Hv) : ∃ c', sForL (gNm 5) M_law_binary_1 (rangeV 0 n) [x0, x1, x2, x3, some (.int 1), c] h = .ok (.nx [x0, x1, x2, x3, some (.int (2 ^ n)), c']) h := by
  obtain ⟨f, h', e, s', rfl, ⟨c', rfl⟩, rfl⟩ := for_ok (g := gNm 5) (b := M_law_binary_1) (xs := rangeV 0 n) (sv := [x0, x1, x2, x3, some (.int 1), c]) (h := h)
    (fun i s h' => (∃ c, s = [x0, x1, x2, x3, some (.int (2 ^ i)), c]) ∧ h' = h) ⟨⟨_, rfl⟩, rfl⟩ (fun i v s h' hv ⟨⟨c, es⟩, eh⟩ => by
      subst es eh
      have ep : (2 : Int) ^ (i + 1) = (2 : Int) ^ i * 2 := Int.pow_succ ..
      rw [ep]
      exact ⟨_, _, rfl, _, _, pow_step, _, .inl rfl, ⟨_, rfl⟩, rfl⟩)
  rw [show (rangeV 0 n).length = n by simp [rangeV]] at e
  exact ⟨c', e⟩
def G_law_binary : SF := fun us h => match us with
  | [.str op, .int a, .int b] => if isW a ∧ isW b ∧ op ∈ BINS then .ok (.int (binW op a b)) h else .bad
  | _ => .bad
theorem m_law_binary_shift {op : List Nat} {a b p : Int} (ho : op = t_shl ∨ op = t_shr) {h : Hv} {c' : Option Val} (m0 : -4611686018427387904 ≤ b % 32 ∧ b % 32 < 4611686018427387904) (p0 : 0 < p) (p1 : p < 1000000000000) (p2 : -18446744073709551616 < p ∧ p < 18446744073709551616)
    (e : sForL (gNm 5) M_law_binary_1 (rangeV 0 (b % 32).toNat) [some (.str op), some (.int a), some (.int b), none, some (.int 1), none] h = .ok (.nx [some (.str op), some (.int a), some (.int b), none, some (.int p), c']) h) :
    M_law_binary [.str op, .int a, .int b] h = .ok (.int (wrapW (if op = t_shl then a * p else a / p))) h := by
  rcases ho with rfl | rfl
  · simp only [t_shl] at e
    simp [M_law_binary, M_law_binary_b, List.replicate, lstK, t_shl, e, m0, p2]
  · simp only [t_shr] at e
    simp [M_law_binary, M_law_binary_b, List.replicate, lstK, t_shl, t_shr, e, m0, p0, p1]
theorem m_law_binary_div {op : List Nat} {a b : Int} (ha : isW a) (hb : isW b) (ho : op = t_div ∨ op = t_rem) {h : Hv} :
    M_law_binary [.str op, .int a, .int b] h = .ok (.int (wrapW (if op = t_div then divW a b else if b = 0 then 0 else a - divW a b * b))) h := by
  obtain ⟨b1, b2⟩ := hb
  by_cases h0 : b = 0
  · rcases ho with rfl | rfl <;> simp [M_law_binary, M_law_binary_b, List.replicate, lstK, t_div, t_rem, h0, divW]
  · have hp : 0 < (if b < 0 then -b else b) ∧ (if b < 0 then -b else b) < 1000000000000 := by split <;> omega
    have c1 : -18446744073709551616 < b := by omega
    have c2 : b < 18446744073709551616 := by omega
    by_cases hs : (a < 0) ≠ (b < 0)
    · have hs' : ¬ decide (a < 0) = decide (b < 0) := by simpa using hs
      have q : (if a < 0 then -a else a) / (if b < 0 then -b else b) * -1 = divW a b := by unfold divW; rw [if_neg h0, if_pos hs]; omega
      generalize divW a b = d at q
      generalize hu : (if a < 0 then -a else a) = u at q
      generalize hv : (if b < 0 then -b else b) = v at q hp
      have hs2 : decide (a < 0) = decide (b < 0) ↔ False := by simpa using hs
      rcases ho with rfl | rfl <;> simp [M_law_binary, M_law_binary_b, List.replicate, lstK, t_div, t_rem, h0, hp.1, hp.2, c1, c2, -decide_eq_decide, hs2, hu, hv, q, Int.mul_comm b]
    · have hs' : decide (a < 0) = decide (b < 0) := by simpa using hs
      have q : (if a < 0 then -a else a) / (if b < 0 then -b else b) = divW a b := by unfold divW; rw [if_neg h0, if_neg hs]
      generalize divW a b = d at q
      generalize hu : (if a < 0 then -a else a) = u at q
      generalize hv : (if b < 0 then -b else b) = v at q hp
      have hs2 : decide (a < 0) = decide (b < 0) ↔ True := by simpa using hs
      rcases ho with rfl | rfl <;> simp [M_law_binary, M_law_binary_b, List.replicate, lstK, t_div, t_rem, h0, hp.1, hp.2, c1, c2, -decide_eq_decide, hs2, hu, hv, q, Int.mul_comm b]
theorem le_law_binary : ∀ us h, G_law_binary us h = .bad ∨ M_law_binary us h = G_law_binary us h := by
  intro us h
  unfold G_law_binary
  split
  · rename_i op a b
    split
    · right
      rename_i hw
      obtain ⟨ha, hb, ho⟩ := hw
      have g2 : ∀ op h, G_law_bits [.str op, .int a, .int b] h = .ok (.int (wrapW (F (bitf op) 32 a b))) h := fun op h => G_law_bits_of ha hb
      have hk : (b % 32).toNat < 32 := by omega
      obtain ⟨p0, p1⟩ := pow_small hk
      have c1 : -18446744073709551616 < b := by unfold isW at hb; omega
      have c2 : b < 18446744073709551616 := by unfold isW at hb; omega
      have sh : ∀ op, op = t_shl ∨ op = t_shr → M_law_binary [.str op, .int a, .int b] h = .ok (.int (wrapW (if op = t_shl then a * 2 ^ (b % 32).toNat else a / 2 ^ (b % 32).toNat))) h := fun op ho => by
        obtain ⟨c', e⟩ := pow_loop (some (.str op)) (some (.int a)) (some (.int b)) none none (b % 32).toNat h
        exact m_law_binary_shift ho (by omega) p0 p1 (by omega) e
      simp only [BINS, List.mem_cons, List.not_mem_nil, or_false] at ho
      rcases ho with rfl | rfl | rfl | rfl | rfl | rfl | rfl | rfl | rfl | rfl | rfl | rfl | rfl | rfl | rfl | rfl
      case inr.inr.inr.inl => exact m_law_binary_div ha hb (.inl rfl)
      case inr.inr.inr.inr.inl => exact m_law_binary_div ha hb (.inr rfl)
      case inr.inr.inr.inr.inr.inr.inr.inr.inl => exact sh _ (.inl rfl)
      case inr.inr.inr.inr.inr.inr.inr.inr.inr.inl => exact sh _ (.inr rfl)
      all_goals simp [M_law_binary, M_law_binary_b, List.replicate, g2, lstK, binW, bitf, b2, c1, c2, t_add, t_sub, t_mul, t_div, t_rem, t_and, t_or, t_xor, t_shl, t_shr, t_lt, t_le, t_eq, t_ne, t_min, t_max]
    · exact .inl rfl
  · exact .inl rfl
theorem G_law_binary_of {op : List Nat} {a b : Int} {h : Hv} (ha : isW a) (hb : isW b) (ho : op ∈ BINS) : G_law_binary [.str op, .int a, .int b] h = .ok (.int (binW op a b)) h := if_pos ⟨ha, hb, ho⟩
/-! ### _law_done -/
def M_law_done_b : SS := (sSeq (sSet 3 (sBin gIxD (sBin gIxD (sVar 0) (sC (.str [116, 104, 114, 101, 97, 100, 115]))) (sVar 1))) (sSeq (sSet 4 (sBin gIxD (sVar 3) (sC (.str [114, 101, 103, 105, 115, 116, 101, 114, 115])))) (sSeq (sSet 5 (sBin gIxD (sVar 0) (sC (.str [108, 97, 117, 110, 99, 104])))) (sIte (sTest (sBin gIn (sBin gIxD (sVar 2) (sC (.int 0))) (sLst (sCons (sC (.str [119, 111, 114, 100])) (sCons (sC (.str [99, 111, 112, 121])) (sCons (sC (.str [117, 110, 97, 114, 121])) (sCons (sC (.str [98, 105, 110, 97, 114, 121])) (sCons (sC (.str [103, 101, 116])) sNil)))))))) (sSeq (sSet 6 (sIf (sTest (sBin gIn (sBin gIxD (sVar 2) (sC (.int 0))) (sLst (sCons (sC (.str [117, 110, 97, 114, 121])) (sCons (sC (.str [98, 105, 110, 97, 114, 121])) sNil))))) (sBin gIxD (sVar 2) (sC (.int 2))) (sBin gIxD (sVar 2) (sC (.int 1))))) (sIte (sTest (sBin gEq (sBin gIxD (sVar 2) (sC (.int 0))) (sC (.str [119, 111, 114, 100])))) (sAsg (sBin gIxD (sVar 2) (sC (.int 2))) (gSub' (sVar 4) (sVar 6))) (sIte (sTest (sBin gEq (sBin gIxD (sVar 2) (sC (.int 0))) (sC (.str [99, 111, 112, 121])))) (sAsg (sBin gIxD (sVar 4) (sBin gIxD (sVar 2) (sC (.int 2)))) (gSub' (sVar 4) (sVar 6))) (sIte (sTest (sBin gEq (sBin gIxD (sVar 2) (sC (.int 0))) (sC (.str [103, 101, 116])))) (sAsg (sBin gIxD (sBin gIxD (sVar 3) (sC (.str [99, 101, 108, 108, 115]))) (sBin gIxD (sVar 2) (sC (.int 2)))) (gSub' (sVar 4) (sVar 6))) (sAsg (sIf (sTest (sBin gEq (sBin gIxD (sVar 2) (sC (.int 0))) (sC (.str [117, 110, 97, 114, 121])))) (sCall (callF 2 G_law_unary) (sCons (sBin gIxD (sVar 2) (sC (.int 1))) (sCons (sBin gIxD (sVar 4) (sBin gIxD (sVar 2) (sC (.int 3)))) sNil))) (sCall (callF 3 G_law_binary) (sCons (sBin gIxD (sVar 2) (sC (.int 1))) (sCons (sBin gIxD (sVar 4) (sBin gIxD (sVar 2) (sC (.int 3)))) (sCons (sBin gIxD (sVar 4) (sBin gIxD (sVar 2) (sC (.int 4)))) sNil))))) (gSub' (sVar 4) (sVar 6))))))) (sIte (sTest (sBin gEq (sBin gIxD (sVar 2) (sC (.int 0))) (sC (.str [107, 101, 101, 112])))) (sAsg (sBin gIxD (sVar 4) (sBin gIxD (sVar 2) (sC (.int 2)))) (gSub' (sBin gIxD (sVar 3) (sC (.str [99, 101, 108, 108, 115]))) (sBin gIxD (sVar 2) (sC (.int 1))))) (sIte (sTest (sBin gEq (sBin gIxD (sVar 2) (sC (.int 0))) (sC (.str [112, 97, 114, 97, 109])))) (sAsg (sBin gIxD (sBin gIxD (sVar 5) (sC (.int 2))) (sBin gIxD (sVar 2) (sC (.int 2)))) (gSub' (sVar 4) (sBin gIxD (sVar 2) (sC (.int 1))))) (sIte (sTest (sBin gEq (sBin gIxD (sVar 2) (sC (.int 0))) (sC (.str [115, 112, 101, 99, 105, 97, 108])))) (sAsg (sBin gIxD (sLst (sCons (sBin gMod (sVar 1) (sBin gIxD (sVar 5) (sC (.int 1)))) (sCons (sBin gDiv (sVar 1) (sBin gIxD (sVar 5) (sC (.int 1)))) (sCons (sBin gIxD (sVar 5) (sC (.int 1))) (sCons (sBin gIxD (sVar 5) (sC (.int 0))) sNil))))) (sMeth mIndex (sLst (sCons (sC (.str [116, 105, 100])) (sCons (sC (.str [98, 105, 100])) (sCons (sC (.str [100, 105, 109])) (sCons (sC (.str [103, 114, 105, 100])) sNil))))) (sCons (sBin gIxD (sVar 2) (sC (.int 2))) sNil))) (gSub' (sVar 4) (sBin gIxD (sVar 2) (sC (.int 1))))) (sSeq sBad (sSeq sBad (sSeq sBad (sSeq sBad sBad)))))))))))
def M_law_done : SF := sFn 3 13 M_law_done_b
def G_law_done : SF := M_law_done
theorem le_law_done : ∀ us h, G_law_done us h = .bad ∨ M_law_done us h = G_law_done us h := fun _ _ => .inr rfl
/-! ### _law_behind -/
def M_law_behind_b : SS := (sSeq (sSet 5 (sBin gIxD (sBin gIxD (sVar 0) (sC (.int 3))) (sBin gIxD (sVar 3) (sC (.int 0))))) (sSeq (sPar3 6 7 8 (sCons (sBin gIxD (sVar 3) (sC (.int 0))) (sCons (sCall cListN (sCons (sBin gIxD (sVar 3) (sC (.int 1))) sNil)) (sCons (sCall cListN (sCons (sBin gIxD (sVar 3) (sC (.int 2))) sNil)) sNil)))) (sSeq (sIte (sTest (sBin gEq (sBin gIxD (sVar 5) (sC (.int 0))) (sC (.str [101, 120, 105, 116])))) (sRet (sVar 3)) sSkip) (sSeq (sIte (sTest (sBin gEq (sBin gIxD (sVar 5) (sC (.int 0))) (sC (.str [106, 117, 109, 112])))) (sRet (sTup (sCons (sBin gIxD (sVar 5) (sC (.int 1))) (sCons (sBin gIxD (sVar 3) (sC (.int 1))) (sCons (sBin gIxD (sVar 3) (sC (.int 2))) sNil))))) sSkip) (sSeq (sIte (sTest (sBin gEq (sBin gIxD (sVar 5) (sC (.int 0))) (sC (.str [98, 114, 97, 110, 99, 104])))) (sRet (sTup (sCons (sIf (sTest (sBin gNe (sBin gIxD (sVar 7) (sBin gIxD (sVar 5) (sC (.int 1)))) (sC (.int 0)))) (sBin gIxD (sVar 5) (sC (.int 2))) (sBin gAddX (sVar 6) (sC (.int 1)))) (sCons (sBin gIxD (sVar 3) (sC (.int 1))) (sCons (sBin gIxD (sVar 3) (sC (.int 2))) sNil))))) sSkip) (sSeq (sIte (sTest (sBin gEq (sBin gIxD (sVar 5) (sC (.int 0))) (sC (.str [108, 111, 97, 100])))) (sAsg (sVar 4) (gSub' (sVar 7) (sBin gIxD (sVar 5) (sC (.int 1))))) (sIte (sTest (sBin gEq (sBin gIxD (sVar 5) (sC (.int 0))) (sC (.str [99, 111, 108, 108, 101, 99, 116])))) (sAsg (sVar 4) (gSub' (sVar 7) (sBin gIxD (sVar 5) (sC (.int 2))))) (sIte (sTest (sBin gIn (sBin gIxD (sVar 5) (sC (.int 0))) (sLst (sCons (sC (.str [119, 111, 114, 100])) (sCons (sC (.str [112, 97, 114, 97, 109])) (sCons (sC (.str [115, 112, 101, 99, 105, 97, 108])) (sCons (sC (.str [99, 111, 112, 121])) (sCons (sC (.str [117, 110, 97, 114, 121])) (sCons (sC (.str [98, 105, 110, 97, 114, 121])) (sCons (sC (.str [103, 101, 116])) (sCons (sC (.str [107, 101, 101, 112])) sNil))))))))))) (sSeq (sSet 9 (sDisp (spCons (sC (.str [114, 101, 103, 105, 115, 116, 101, 114, 115])) (sVar 7) (spCons (sC (.str [99, 101, 108, 108, 115])) (sVar 8) spNil)))) (sExpr (sCall (callF 3 G_law_done) (sCons (sDisp (spCons (sC (.str [116, 104, 114, 101, 97, 100, 115])) (sDisp (spCons (sVar 2) (sVar 9) spNil)) (spCons (sC (.str [108, 97, 117, 110, 99, 104])) (sVar 1) spNil))) (sCons (sVar 2) (sCons (sVar 5) sNil)))))) sSkip))) (sRet (sTup (sCons (sBin gAddX (sVar 6) (sC (.int 1))) (sCons (sCall cTup (sCons (sVar 7) sNil)) (sCons (sCall cTup (sCons (sVar 8) sNil)) sNil)))))))))))
def M_law_behind : SF := sFn 5 10 M_law_behind_b
def G_law_behind : SF := trunc M_law_behind
theorem le_law_behind : ∀ us h, G_law_behind us h = .bad ∨ trunc M_law_behind us h = G_law_behind us h := fun _ _ => .inr rfl
/-! ### changed -/
def M_changed_b : SS := (sRet (sBin gAddX (sBin gAddX (sSl (sVar 0) sNo (sPart (sVar 1))) (sTup (sCons (sVar 2) sNil))) (sSl (sVar 0) (sPart (sBin gAddX (sVar 1) (sC (.int 1)))) sNo)))
def M_changed : SF := sFn 3 3 M_changed_b
def G_changed : SF := trunc M_changed
theorem le_changed : ∀ us h, G_changed us h = .bad ∨ trunc M_changed us h = G_changed us h := fun _ _ => .inr rfl
/-! ### special -/
def M_special_b : SS := (sSeq (sAsg (sVar 2) (gTp [3, 4, 5, 5])) (sSeq (sIte (sTest (sBin gEq (sVar 0) (sC (.str [116, 105, 100])))) (sRet (sBin gMod (sVar 1) (sVar 4))) sSkip) (sSeq (sIte (sTest (sBin gEq (sVar 0) (sC (.str [98, 105, 100])))) (sRet (sBin gDiv (sVar 1) (sVar 4))) sSkip) (sSeq (sIte (sTest (sBin gEq (sVar 0) (sC (.str [100, 105, 109])))) (sRet (sVar 4)) sSkip) (sRet (sVar 3))))))
def M_special : SF := sFn 3 6 M_special_b
def G_special : SF := trunc M_special
theorem le_special : ∀ us h, G_special us h = .bad ∨ trunc M_special us h = G_special us h := fun _ _ => .inr rfl
/-! ### wrapped -/
def M_wrapped_b : SS := (sSeq (sSet 1 (sBin gMod (sVar 0) (sC c_MODULUS))) (sSeq (sIte (sTest (sBin gGt (sVar 1) (sC c_GREATEST))) (sRet (sBin gSub (sVar 1) (sC c_MODULUS))) sSkip) (sRet (sVar 1))))
def M_wrapped : SF := sFn 1 2 M_wrapped_b
def G_wrapped : SF := fun us h => match us with
  | [.int n] => .ok (.int (wrapW n)) h
  | _ => .bad
theorem le_wrapped : ∀ us h, G_wrapped us h = .bad ∨ M_wrapped us h = G_wrapped us h := by
  intro us h
  unfold G_wrapped
  split
  · rename_i n
    right
    simp [M_wrapped, M_wrapped_b, c_MODULUS, c_GREATEST, wrapW, List.replicate]
    split <;> rfl
  · exact .inl rfl
@[simp] theorem G_wrapped_int {n : Int} {h : Hv} : G_wrapped [.int n] h = .ok (.int (wrapW n)) h := rfl
/-! ### unary -/
def M_unary_b : SS := (sSeq (sIte (sTest (sBin gEq (sVar 0) (sC (.str [110, 101, 103])))) (sRet (sCall (callF 1 G_wrapped) (sCons (sUn gNeg (sVar 1)) sNil))) sSkip) (sSeq (sIte (sTest (sBin gEq (sVar 0) (sC (.str [110, 111, 116])))) (sRet (sCall (callF 1 G_wrapped) (sCons (sBin gSub (sUn gNeg (sVar 1)) (sC (.int 1))) sNil))) sSkip) (sRet (sCall cInt (sCons (sBin gEq (sVar 1) (sC (.int 0))) sNil)))))
def M_unary : SF := sFn 2 2 M_unary_b
def G_unary : SF := fun us h => match us with
  | [.str op, .int a] => .ok (.int (unW op a)) h
  | _ => .bad
theorem le_unary : ∀ us h, G_unary us h = .bad ∨ M_unary us h = G_unary us h := by
  intro us h
  unfold G_unary
  split
  · rename_i op a
    right
    by_cases h1 : op = t_neg
    · subst h1; simp [M_unary, M_unary_b, List.replicate, unW, t_neg]
    by_cases h2 : op = t_not
    · subst h2; simp [M_unary, M_unary_b, List.replicate, unW, t_neg, t_not]
    · simp only [t_neg, t_not] at h1 h2
      simp [M_unary, M_unary_b, List.replicate, unW, t_neg, t_not, h1, h2, b2]
  · exact .inl rfl
@[simp] theorem G_unary_of {op : List Nat} {a : Int} {h : Hv} : G_unary [.str op, .int a] h = .ok (.int (unW op a)) h := rfl
/-! ### divided -/
def M_divided_b : SS := (sSeq (sIte (sTest (sBin gEq (sVar 1) (sC (.int 0)))) (sRet (sC (.int 0))) sSkip) (sSeq (sSet 2 (sBin gDiv (sCall cAbs (sCons (sVar 0) sNil)) (sCall cAbs (sCons (sVar 1) sNil)))) (sSeq (sIte (sTest (sBin gNe (sBin gLt (sVar 0) (sC (.int 0))) (sBin gLt (sVar 1) (sC (.int 0))))) (sRet (sUn gNeg (sVar 2))) sSkip) (sRet (sVar 2)))))
def M_divided : SF := sFn 2 3 M_divided_b
def G_divided : SF := fun us h => match us with
  | [.int a, .int b] => if b.natAbs < 1000000000000 then .ok (.int (divW a b)) h else .bad
  | _ => .bad
theorem le_divided : ∀ us h, G_divided us h = .bad ∨ M_divided us h = G_divided us h := by
  intro us h
  unfold G_divided
  split
  · rename_i a b
    split
    · right
      rename_i hb
      by_cases h0 : b = 0
      · simp [M_divided, M_divided_b, List.replicate, h0, divW]
      · have hp : 0 < (if b < 0 then -b else b) ∧ (if b < 0 then -b else b) < 1000000000000 := by split <;> omega
        by_cases hs : (a < 0) ≠ (b < 0)
        · have hs' : ¬ decide (a < 0) = decide (b < 0) := by simpa using hs
          simp [M_divided, M_divided_b, List.replicate, h0, divW, hp.1, hp.2]
          simp_all
        · have hs' : decide (a < 0) = decide (b < 0) := by simpa using hs
          simp [M_divided, M_divided_b, List.replicate, h0, divW, hp.1, hp.2]
          simp_all
    · exact .inl rfl
  · exact .inl rfl
theorem G_divided_int {a b : Int} {h : Hv} (hb : b.natAbs < 1000000000000) : G_divided [.int a, .int b] h = .ok (.int (divW a b)) h := if_pos hb
/-! ### arithmetic -/
def M_arithmetic_b : SS := (sSeq (sIte (sTest (sBin gEq (sVar 0) (sC (.str [97, 100, 100])))) (sRet (sBin gAddX (sVar 1) (sVar 2))) sSkip) (sSeq (sIte (sTest (sBin gEq (sVar 0) (sC (.str [115, 117, 98])))) (sRet (sBin gSub (sVar 1) (sVar 2))) sSkip) (sSeq (sIte (sTest (sBin gEq (sVar 0) (sC (.str [109, 117, 108])))) (sRet (sBin gMulX (sVar 1) (sVar 2))) sSkip) (sSeq (sIte (sTest (sBin gEq (sVar 0) (sC (.str [100, 105, 118])))) (sRet (sCall (callF 2 G_divided) (sCons (sVar 1) (sCons (sVar 2) sNil)))) sSkip) (sSeq (sIte (sTest (sBin gEq (sVar 0) (sC (.str [114, 101, 109])))) (sSeq (sIte (sTest (sBin gEq (sVar 2) (sC (.int 0)))) (sRet (sC (.int 0))) sSkip) (sRet (sBin gSub (sVar 1) (sBin gMulX (sCall (callF 2 G_divided) (sCons (sVar 1) (sCons (sVar 2) sNil))) (sVar 2))))) sSkip) (sRet (sC .non)))))))
def M_arithmetic : SF := sFn 3 3 M_arithmetic_b
def arithV (op : List Nat) (a b : Int) : Val := if op = t_add then .int (a + b) else if op = t_sub then .int (a - b) else if op = t_mul then .int (a * b) else
  if op = t_div then .int (divW a b) else if op = t_rem then .int (if b = 0 then 0 else a - divW a b * b) else .non
def G_arithmetic : SF := fun us h => match us with
  | [.str op, .int a, .int b] => if isW a ∧ isW b then .ok (arithV op a b) h else .bad
  | _ => .bad
theorem le_arithmetic : ∀ us h, G_arithmetic us h = .bad ∨ M_arithmetic us h = G_arithmetic us h := by
  intro us h
  unfold G_arithmetic
  split
  · rename_i op a b
    split
    · right
      rename_i hw
      obtain ⟨⟨a1, a2⟩, b1, b2⟩ := hw
      have hb : b.natAbs < 1000000000000 := by omega
      have c1 : -18446744073709551616 < b := by omega
      have c2 : b < 18446744073709551616 := by omega
      have hd : ∀ h, G_divided [.int a, .int b] h = .ok (.int (divW a b)) h := fun h => G_divided_int hb
      by_cases h1 : op = t_add
      · subst h1; simp [M_arithmetic, M_arithmetic_b, List.replicate, arithV, t_add]
      by_cases h2 : op = t_sub
      · subst h2; simp [M_arithmetic, M_arithmetic_b, List.replicate, arithV, t_add, t_sub]
      by_cases h3 : op = t_mul
      · subst h3; simp [M_arithmetic, M_arithmetic_b, List.replicate, arithV, t_add, t_sub, t_mul, c1, c2]
      by_cases h4 : op = t_div
      · subst h4; simp [M_arithmetic, M_arithmetic_b, List.replicate, arithV, t_add, t_sub, t_mul, t_div, hd]
      by_cases h5 : op = t_rem
      · subst h5
        by_cases h0 : b = 0
        · subst h0; simp [M_arithmetic, M_arithmetic_b, List.replicate, arithV, t_add, t_sub, t_mul, t_div, t_rem]
        · simp [M_arithmetic, M_arithmetic_b, List.replicate, arithV, t_add, t_sub, t_mul, t_div, t_rem, hd, h0, c1, c2]
      · simp only [t_add, t_sub, t_mul, t_div, t_rem] at h1 h2 h3 h4 h5
        simp [M_arithmetic, M_arithmetic_b, List.replicate, arithV, t_add, t_sub, t_mul, t_div, t_rem, h1, h2, h3, h4, h5]
    · exact .inl rfl
  · exact .inl rfl
theorem G_arithmetic_of {op : List Nat} {a b : Int} {h : Hv} (ha : isW a) (hb : isW b) : G_arithmetic [.str op, .int a, .int b] h = .ok (arithV op a b) h := if_pos ⟨ha, hb⟩
/-! ### bits -/
def M_bits_b : SS := (sSeq (sIte (sTest (sBin gEq (sVar 0) (sC (.str [97, 110, 100])))) (sRet (sBin gAnd (sVar 1) (sVar 2))) sSkip) (sSeq (sIte (sTest (sBin gEq (sVar 0) (sC (.str [111, 114])))) (sRet (sBin gOr (sVar 1) (sVar 2))) sSkip) (sSeq (sIte (sTest (sBin gEq (sVar 0) (sC (.str [120, 111, 114])))) (sRet (sBin gXor (sVar 1) (sVar 2))) sSkip) (sSeq (sIte (sTest (sBin gEq (sVar 0) (sC (.str [115, 104, 108])))) (sRet (sBin gShl (sVar 1) (sBin gMod (sVar 2) (sC (.int 32))))) sSkip) (sSeq (sIte (sTest (sBin gEq (sVar 0) (sC (.str [115, 104, 114])))) (sRet (sBin gShr (sVar 1) (sBin gMod (sVar 2) (sC (.int 32))))) sSkip) (sRet (sC .non)))))))
def M_bits : SF := sFn 3 3 M_bits_b
def bitsV (op : List Nat) (a b : Int) : Val := if op = t_and then .int (PySem.Builtin.bitAnd a b) else if op = t_or then .int (PySem.Builtin.bitOr a b) else if op = t_xor then .int (PySem.Builtin.bitXor a b) else
  if op = t_shl then .int (a * 2 ^ (b % 32).toNat) else if op = t_shr then .int (a / 2 ^ (b % 32).toNat) else .non
def G_bits : SF := fun us h => match us with
  | [.str op, .int a, .int b] => if isW a ∧ isW b then .ok (bitsV op a b) h else .bad
  | _ => .bad
theorem le_bits : ∀ us h, G_bits us h = .bad ∨ M_bits us h = G_bits us h := by
  intro us h
  unfold G_bits
  split
  · rename_i op a b
    split
    · right
      rename_i hw
      obtain ⟨⟨a1, a2⟩, b1, b2⟩ := hw
      have c0 : 0 ≤ b % 32 := by omega
      have c1 : b % 32 ≤ 1000000 := by omega
      have c2 : a.natAbs < 18446744073709551616 := by omega
      by_cases h1 : op = t_and
      · subst h1; simp [M_bits, M_bits_b, List.replicate, bitsV, t_and]
      by_cases h2 : op = t_or
      · subst h2; simp [M_bits, M_bits_b, List.replicate, bitsV, t_and, t_or]
      by_cases h3 : op = t_xor
      · subst h3; simp [M_bits, M_bits_b, List.replicate, bitsV, t_and, t_or, t_xor]
      by_cases h4 : op = t_shl
      · subst h4; simp [M_bits, M_bits_b, List.replicate, bitsV, t_and, t_or, t_xor, t_shl, c0, c1, c2]
      by_cases h5 : op = t_shr
      · subst h5; simp [M_bits, M_bits_b, List.replicate, bitsV, t_and, t_or, t_xor, t_shl, t_shr, c0]
      · simp only [t_and, t_or, t_xor, t_shl, t_shr] at h1 h2 h3 h4 h5
        simp [M_bits, M_bits_b, List.replicate, bitsV, t_and, t_or, t_xor, t_shl, t_shr, h1, h2, h3, h4, h5]
    · exact .inl rfl
  · exact .inl rfl
theorem G_bits_of {op : List Nat} {a b : Int} {h : Hv} (ha : isW a) (hb : isW b) : G_bits [.str op, .int a, .int b] h = .ok (bitsV op a b) h := if_pos ⟨ha, hb⟩
/-! ### compared -/
def M_compared_b : SS := (sSeq (sIte (sTest (sBin gEq (sVar 0) (sC (.str [108, 116])))) (sRet (sCall cInt (sCons (sBin gLt (sVar 1) (sVar 2)) sNil))) sSkip) (sSeq (sIte (sTest (sBin gEq (sVar 0) (sC (.str [108, 101])))) (sRet (sCall cInt (sCons (sBin gLe (sVar 1) (sVar 2)) sNil))) sSkip) (sSeq (sIte (sTest (sBin gEq (sVar 0) (sC (.str [101, 113])))) (sRet (sCall cInt (sCons (sBin gEq (sVar 1) (sVar 2)) sNil))) sSkip) (sSeq (sIte (sTest (sBin gEq (sVar 0) (sC (.str [110, 101])))) (sRet (sCall cInt (sCons (sBin gNe (sVar 1) (sVar 2)) sNil))) sSkip) (sSeq (sIte (sTest (sBin gEq (sVar 0) (sC (.str [109, 105, 110])))) (sRet (sCall cMin (sCons (sVar 1) (sCons (sVar 2) sNil)))) sSkip) (sRet (sCall cMax (sCons (sVar 1) (sCons (sVar 2) sNil)))))))))
def M_compared : SF := sFn 3 3 M_compared_b
def compW (op : List Nat) (a b : Int) : Int := if op = t_lt then b2 (decide (a < b)) else if op = t_le then b2 (decide (a ≤ b)) else if op = t_eq then b2 (decide (a = b)) else if op = t_ne then b2 (!decide (a = b)) else
  if op = t_min then (if b < a then b else a) else (if b > a then b else a)
def G_compared : SF := fun us h => match us with
  | [.str op, .int a, .int b] => .ok (.int (compW op a b)) h
  | _ => .bad
theorem le_compared : ∀ us h, G_compared us h = .bad ∨ M_compared us h = G_compared us h := by
  intro us h
  unfold G_compared
  split
  · rename_i op a b
    right
    by_cases h1 : op = t_lt
    · subst h1; simp [M_compared, M_compared_b, List.replicate, compW, t_lt, b2]
    by_cases h2 : op = t_le
    · subst h2; simp [M_compared, M_compared_b, List.replicate, compW, t_lt, t_le, b2]
    by_cases h3 : op = t_eq
    · subst h3; simp [M_compared, M_compared_b, List.replicate, compW, t_lt, t_le, t_eq, b2]
    by_cases h4 : op = t_ne
    · subst h4; simp [M_compared, M_compared_b, List.replicate, compW, t_lt, t_le, t_eq, t_ne, b2]
    by_cases h5 : op = t_min
    · subst h5; simp [M_compared, M_compared_b, List.replicate, compW, t_lt, t_le, t_eq, t_ne, t_min, b2]
    · simp only [t_lt, t_le, t_eq, t_ne, t_min] at h1 h2 h3 h4 h5
      simp [M_compared, M_compared_b, List.replicate, compW, t_lt, t_le, t_eq, t_ne, t_min, h1, h2, h3, h4, h5]
  · exact .inl rfl
@[simp] theorem G_compared_of {op : List Nat} {a b : Int} {h : Hv} : G_compared [.str op, .int a, .int b] h = .ok (.int (compW op a b)) h := rfl
/-! ### binary -/
def M_binary_b : SS := (sSeq (sSet 3 (sCall (callF 3 G_arithmetic) (sCons (sVar 0) (sCons (sVar 1) (sCons (sVar 2) sNil))))) (sSeq (sIte (sTest (sBin gIsN (sVar 3) (sC .non))) (sSet 3 (sCall (callF 3 G_bits) (sCons (sVar 0) (sCons (sVar 1) (sCons (sVar 2) sNil))))) sSkip) (sSeq (sIte (sTest (sBin gIsN (sVar 3) (sC .non))) (sSet 3 (sCall (callF 3 G_compared) (sCons (sVar 0) (sCons (sVar 1) (sCons (sVar 2) sNil))))) sSkip) (sRet (sCall (callF 1 G_wrapped) (sCons (sVar 3) sNil))))))
def M_binary : SF := sFn 3 4 M_binary_b
def G_binary : SF := fun us h => match us with
  | [.str op, .int a, .int b] => if isW a ∧ isW b ∧ op ∈ BINS then .ok (.int (binW op a b)) h else .bad
  | _ => .bad
theorem le_binary : ∀ us h, G_binary us h = .bad ∨ M_binary us h = G_binary us h := by
  intro us h
  unfold G_binary
  split
  · rename_i op a b
    split
    · right
      rename_i hw
      obtain ⟨ha, hb, ho⟩ := hw
      have g1 : ∀ op h, G_arithmetic [.str op, .int a, .int b] h = .ok (arithV op a b) h := fun op h => G_arithmetic_of ha hb
      have g2 : ∀ op h, G_bits [.str op, .int a, .int b] h = .ok (bitsV op a b) h := fun op h => G_bits_of ha hb
      have wand := wrap_eq (show PySem.Builtin.bitAnd a b % 4294967296 = F fAnd 32 a b % 4294967296 by rw [and_mod, F_range bit_and])
      have wor := wrap_eq (show PySem.Builtin.bitOr a b % 4294967296 = F fOr 32 a b % 4294967296 by rw [or_mod, F_range bit_or])
      have wxor := wrap_eq (show PySem.Builtin.bitXor a b % 4294967296 = F fXor 32 a b % 4294967296 by rw [xor_mod, F_range bit_xor])
      have wb : ∀ p, wrapW (b2 p) = b2 p := fun p => wrap_id (b2_w p)
      have wmin : wrapW (if b < a then b else a) = if b < a then b else a := wrap_id (by split <;> assumption)
      have wmax : wrapW (if a < b then b else a) = if a < b then b else a := wrap_id (by split <;> assumption)
      simp only [BINS, List.mem_cons, List.not_mem_nil, or_false] at ho
      rcases ho with rfl | rfl | rfl | rfl | rfl | rfl | rfl | rfl | rfl | rfl | rfl | rfl | rfl | rfl | rfl | rfl <;>
        simp [M_binary, M_binary_b, List.replicate, g1, g2, arithV, bitsV, compW, binW, wand, wor, wxor, wb, wmin, wmax, t_add, t_sub, t_mul, t_div, t_rem, t_and, t_or, t_xor, t_shl, t_shr, t_lt, t_le, t_eq, t_ne, t_min, t_max]
    · exact .inl rfl
  · exact .inl rfl
theorem G_binary_of {op : List Nat} {a b : Int} {h : Hv} (ha : isW a) (hb : isW b) (ho : op ∈ BINS) : G_binary [.str op, .int a, .int b] h = .ok (.int (binW op a b)) h := if_pos ⟨ha, hb, ho⟩
/-! ### result -/
def M_result_b : SS := (sSeq (sSet 5 (sBin gIxD (sVar 0) (sC (.int 0)))) (sSeq (sSet 6 (sBin gIxD (sVar 1) (sC (.int 1)))) (sSeq (sIte (sTest (sBin gEq (sVar 5) (sC (.str [119, 111, 114, 100])))) (sRet (sTup (sCons (sBin gIxD (sVar 0) (sC (.int 1))) (sCons (sBin gIxD (sVar 0) (sC (.int 2))) sNil)))) sSkip) (sSeq (sIte (sTest (sBin gEq (sVar 5) (sC (.str [112, 97, 114, 97, 109])))) (sRet (sTup (sCons (sBin gIxD (sVar 0) (sC (.int 1))) (sCons (sBin gIxD (sBin gIxD (sVar 2) (sC (.int 2))) (sBin gIxD (sVar 0) (sC (.int 2)))) sNil)))) sSkip) (sSeq (sIte (sTest (sBin gEq (sVar 5) (sC (.str [115, 112, 101, 99, 105, 97, 108])))) (sRet (sTup (sCons (sBin gIxD (sVar 0) (sC (.int 1))) (sCons (sCall (callF 3 G_special) (sCons (sBin gIxD (sVar 0) (sC (.int 2))) (sCons (sVar 3) (sCons (sVar 2) sNil)))) sNil)))) sSkip) (sSeq (sIte (sTest (sBin gEq (sVar 5) (sC (.str [99, 111, 112, 121])))) (sRet (sTup (sCons (sBin gIxD (sVar 0) (sC (.int 1))) (sCons (sBin gIxD (sVar 6) (sBin gIxD (sVar 0) (sC (.int 2)))) sNil)))) sSkip) (sSeq (sIte (sTest (sBin gEq (sVar 5) (sC (.str [117, 110, 97, 114, 121])))) (sRet (sTup (sCons (sBin gIxD (sVar 0) (sC (.int 2))) (sCons (sCall (callF 2 G_unary) (sCons (sBin gIxD (sVar 0) (sC (.int 1))) (sCons (sBin gIxD (sVar 6) (sBin gIxD (sVar 0) (sC (.int 3)))) sNil))) sNil)))) sSkip) (sSeq (sIte (sTest (sBin gEq (sVar 5) (sC (.str [98, 105, 110, 97, 114, 121])))) (sRet (sTup (sCons (sBin gIxD (sVar 0) (sC (.int 2))) (sCons (sCall (callF 3 G_binary) (sCons (sBin gIxD (sVar 0) (sC (.int 1))) (sCons (sBin gIxD (sVar 6) (sBin gIxD (sVar 0) (sC (.int 3)))) (sCons (sBin gIxD (sVar 6) (sBin gIxD (sVar 0) (sC (.int 4)))) sNil)))) sNil)))) sSkip) (sSeq (sIte (sTest (sBin gEq (sVar 5) (sC (.str [103, 101, 116])))) (sRet (sTup (sCons (sBin gIxD (sVar 0) (sC (.int 1))) (sCons (sBin gIxD (sBin gIxD (sVar 1) (sC (.int 2))) (sBin gIxD (sVar 0) (sC (.int 2)))) sNil)))) sSkip) (sSeq (sIte (sTest (sBin gEq (sVar 5) (sC (.str [108, 111, 97, 100])))) (sRet (sTup (sCons (sBin gIxD (sVar 0) (sC (.int 1))) (sCons (sVar 4) sNil)))) sSkip) (sSeq (sIte (sTest (sBin gEq (sVar 5) (sC (.str [99, 111, 108, 108, 101, 99, 116])))) (sRet (sTup (sCons (sBin gIxD (sVar 0) (sC (.int 2))) (sCons (sVar 4) sNil)))) sSkip) (sRet (sC .non)))))))))))))
def M_result : SF := sFn 5 7 M_result_b
def G_result : SF := trunc M_result
theorem le_result : ∀ us h, G_result us h = .bad ∨ trunc M_result us h = G_result us h := fun _ _ => .inr rfl
/-! ### behind -/
def M_behind_b : SS := (sSeq (sAsg (sVar 3) (gTp [5, 6, 7])) (sSeq (sSet 8 (sBin gIxD (sBin gIxD (sVar 0) (sC (.int 3))) (sVar 5))) (sSeq (sSet 9 (sBin gIxD (sVar 8) (sC (.int 0)))) (sSeq (sIte (sTest (sBin gEq (sVar 9) (sC (.str [101, 120, 105, 116])))) (sRet (sVar 3)) sSkip) (sSeq (sSet 10 (sBin gAddX (sVar 5) (sC (.int 1)))) (sSeq (sIte (sTest (sBin gEq (sVar 9) (sC (.str [106, 117, 109, 112])))) (sSet 10 (sBin gIxD (sVar 8) (sC (.int 1)))) (sIte (tAnd' (sTest (sBin gEq (sVar 9) (sC (.str [98, 114, 97, 110, 99, 104])))) (sTest (sBin gNe (sBin gIxD (sVar 6) (sBin gIxD (sVar 8) (sC (.int 1)))) (sC (.int 0))))) (sSet 10 (sBin gIxD (sVar 8) (sC (.int 2)))) sSkip)) (sSeq (sIte (sTest (sBin gEq (sVar 9) (sC (.str [107, 101, 101, 112])))) (sRet (sTup (sCons (sVar 10) (sCons (sVar 6) (sCons (sCall (callF 3 G_changed) (sCons (sVar 7) (sCons (sBin gIxD (sVar 8) (sC (.int 1))) (sCons (sBin gIxD (sVar 6) (sBin gIxD (sVar 8) (sC (.int 2)))) sNil)))) sNil))))) sSkip) (sSeq (sSet 11 (sCall (callF 5 G_result) (sCons (sVar 8) (sCons (sVar 3) (sCons (sVar 1) (sCons (sVar 2) (sCons (sVar 4) sNil))))))) (sSeq (sIte (sTest (sBin gNotN (sVar 11) (sC .non))) (sSet 6 (sCall (callF 3 G_changed) (sCons (sVar 6) (sCons (sBin gIxD (sVar 11) (sC (.int 0))) (sCons (sBin gIxD (sVar 11) (sC (.int 1))) sNil))))) sSkip) (sRet (sTup (sCons (sVar 10) (sCons (sVar 6) (sCons (sVar 7) sNil))))))))))))))
def M_behind : SF := sFn 5 12 M_behind_b
def G_behind : SF := trunc M_behind
theorem le_behind : ∀ us h, G_behind us h = .bad ∨ trunc M_behind us h = G_behind us h := fun _ _ => .inr rfl
/-! ### law -/
def M_law_1 : SS := (sSeq (sSet 7 (sCall (callF 2 G_law_request) (sCons (sVar 2) (sCons (sVar 5) sNil)))) (sSeq (sIte (tNot' (sTru (sCall (callF 2 G_law_same) (sCons (sCall (callF 2 G_request) (sCons (sVar 2) (sCons (sVar 5) sNil))) (sCons (sVar 7) sNil))))) (sRet (sC (.bl false))) sSkip) (sSeq (sSet 8 (sCall (callF 1 G_law_word) (sCons (sVar 1) sNil))) (sSeq (sSet 9 (sCall (callF 5 G_law_behind) (sCons (sVar 2) (sCons (sVar 3) (sCons (sVar 4) (sCons (sVar 5) (sCons (sVar 8) sNil))))))) (sSeq (sIte (tNot' (sTru (sCall (callF 2 G_law_same) (sCons (sCall (callF 5 G_behind) (sCons (sVar 2) (sCons (sVar 3) (sCons (sVar 4) (sCons (sVar 5) (sCons (sVar 8) sNil)))))) (sCons (sVar 9) sNil))))) (sRet (sC (.bl false))) sSkip) (sSeq (sIte (tAnd' (sTest (sBin gNotIn (sBin gIxD (sVar 7) (sC (.int 0))) (sLst (sCons (sC (.str [108, 111, 97, 100])) (sCons (sC (.str [99, 111, 108, 108, 101, 99, 116])) sNil))))) (tNot' (sTru (sCall (callF 2 G_law_same) (sCons (sCall (callF 5 G_behind) (sCons (sVar 2) (sCons (sVar 3) (sCons (sVar 4) (sCons (sVar 5) (sCons (sIf (sTest (sBin gLt (sVar 8) (sC (.int 5)))) (sBin gAddX (sVar 8) (sC (.int 1))) (sC (.int 0))) sNil)))))) (sCons (sVar 9) sNil)))))) (sRet (sC (.bl false))) sSkip) (sSeq (sSet 10 (sCall (callF 2 G_law_draw) (sCons (sVar 1) (sCons (sCall cLen (sCons (sBin gIxD (sVar 2) (sC (.int 3))) sNil)) sNil)))) (sSeq (sSet 11 (sTup (sCons (sVar 10) (sCons (sCall cTup (sCons (sLc [12] (iRange1 (sC (.int 8))) (gNm 12) tTrue (sCall (callF 1 G_law_word) (sCons (sVar 1) sNil))) sNil)) (sCons (sCall cTup (sCons (sLc [12] (iRange1 (sBin gIxD (sVar 2) (sC (.int 2)))) (gNm 12) tTrue (sCall (callF 1 G_law_word) (sCons (sVar 1) sNil))) sNil)) sNil))))) (sSeq (sIte (tNot' (sTru (sCall (callF 2 G_law_same) (sCons (sCall (callF 2 G_request) (sCons (sVar 2) (sCons (sVar 11) sNil))) (sCons (sCall (callF 2 G_law_request) (sCons (sVar 2) (sCons (sVar 11) sNil))) sNil))))) (sRet (sC (.bl false))) sSkip) (sSeq (sIte (tNot' (sTru (sCall (callF 2 G_law_same) (sCons (sCall (callF 5 G_behind) (sCons (sVar 2) (sCons (sVar 3) (sCons (sVar 4) (sCons (sVar 11) (sCons (sVar 8) sNil)))))) (sCons (sCall (callF 5 G_law_behind) (sCons (sVar 2) (sCons (sVar 3) (sCons (sVar 4) (sCons (sVar 11) (sCons (sVar 8) sNil)))))) sNil))))) (sRet (sC (.bl false))) sSkip) (sSet 5 (sVar 9))))))))))))
def M_law_b : SS := (sSeq (sSet 1 (sCall (callF 1 G_law_stream) (sCons (sVar 0) sNil))) (sSeq (sSet 2 (sCall (callF 1 G_law_code) (sCons (sVar 1) sNil))) (sSeq (sSet 3 (sCall (callF 2 G_law_launch) (sCons (sVar 1) (sCons (sVar 2) sNil)))) (sSeq (sSet 4 (sCall (callF 2 G_law_draw) (sCons (sVar 1) (sCons (sBin gMulX (sBin gIxD (sVar 3) (sC (.int 0))) (sBin gIxD (sVar 3) (sC (.int 1)))) sNil)))) (sSeq (sSet 5 (sCall (callF 1 G_first_lane) (sCons (sVar 2) sNil))) (sSeq (sIte (tNot' (sTru (sCall (callF 2 G_law_same) (sCons (sVar 5) (sCons (sTup (sCons (sC (.int 0)) (sCons (sBin gMulX (sTup (sCons (sC (.int 0)) sNil)) (sC (.int 8))) (sCons (sBin gMulX (sTup (sCons (sC (.int 0)) sNil)) (sBin gIxD (sVar 2) (sC (.int 2)))) sNil)))) sNil))))) (sRet (sC (.bl false))) sSkip) (sSeq (sFor (iRange1 (sC (.int 25))) (gNm 6) M_law_1) (sRet (sC (.bl true))))))))))
def M_law : SF := sFn 1 13 M_law_b
def G_law : SF := trunc M_law
theorem le_law : ∀ us h, G_law us h = .bad ∨ trunc M_law us h = G_law us h := fun _ _ => .inr rfl
end
end Lw

set_option Elab.async false
set_option linter.all false
set_option maxRecDepth 100000
set_option maxHeartbeats 4000000
namespace Lw
open Sx Wd Nx
open Nx.Enc (enc arg red)
open Nx.ToD (toD)
noncomputable section
/-! ### _law_draw -/
/-- the stream as the thing in its cell -/
def rpZ : Rep Strm where
  p h v s F := ∃ n, v = .ref n ∧ h[n]? = some (strmC s) ∧ F = [n] ∧ s.ok
  fr := fun ⟨n, e1, e2, e3, e4⟩ k => ⟨n, e1, by rw [k n (by rw [e3]; exact List.mem_cons_self)]; exact e2, e3, e4⟩
  lt := fun ⟨n, e1, e2, e3, _⟩ j hj => by
    rw [e3] at hj
    rw [List.mem_singleton.mp hj]
    exact (List.getElem?_eq_some_iff.mp e2).1
theorem rpZ_mk {h : Hv} {n : Nat} {s : Strm} (e : h[n]? = some (strmC s)) (k : s.ok) : rpZ.p h (.ref n) s [n] := show ∃ n', _ from ⟨n, rfl, e, rfl, k⟩
@[irreducible] def N_law_draw (s : Strm) (n : Int) : N (Int × Strm) := .chk (0 < n ∧ n < 1000000000000) (.ok (drawV s n, drawS s n))
theorem d_law_draw : S1 rpZ G_law_draw N_law_draw := fun h v s F n p nd => by
  obtain ⟨i, rfl, hi, rfl, ok⟩ := p
  unfold N_law_draw N.chk
  by_cases c : 0 < n ∧ n < 1000000000000
  · rw [if_pos c]
    have d := draw_spec (h := h) (i := i) (n := n) (S := s) ⟨hi, ok⟩ c.1 c.2
    have hl : i < h.length := (List.getElem?_eq_some_iff.mp hi).1
    refine ⟨h.set i (strmC (drawS s n)), d, ⟨[i], rpZ_mk (List.getElem?_set_self hl) (draw_ok ok c.1), by simp, fun j hj => .inl hj⟩, by rw [List.length_set]; exact Nat.le_refl _, fun j hj hx => List.getElem?_set_ne fun z => hx (by rw [z]; exact List.mem_singleton.mpr rfl)⟩
  · rw [if_neg c]; trivial
theorem draw_Ok {s : Strm} {n : Int} (h : 0 < n ∧ n < 1000000000000) : (noE (N_law_draw s n)).Ok fun p => 0 ≤ p.1 ∧ p.1 < n := by
  unfold N_law_draw
  rw [N.chk_t h]
  exact ⟨_, rfl, draw_lt h.1⟩
theorem drawN_Ok {s : Strm} {n : Int} (h : 0 < n ∧ n < 1000000000000) : (noE (N_law_draw s n)).Ok fun p => ∃ k : Nat, p.1 = (k : Int) ∧ (k : Int) < n :=
  (draw_Ok h).imp fun p hp => ⟨p.1.toNat, by omega, by omega⟩
theorem draw_i {s : Strm} {n : Int} {Q : Int × Strm → Prop} (h : 0 < n ∧ n < 1000000000000) (q : ∀ (k : Nat) s', (k : Int) < n → Q ((k : Int), s')) : (noE (N_law_draw s n)).Ok Q :=
  (drawN_Ok h).imp fun p ⟨k, e, hk⟩ => by have := q k p.2 hk; rw [← e] at this; exact this
/-! ### _law_pick -/
@[irreducible] def N_law_pick {α : Type} (s : Strm) (xs : List α) : N (α × Strm) := .chk (0 < xs.length ∧ xs.length < 1000000000000) ((N.opt xs[(drawV s xs.length).toNat]?).bind fun a => .ok (a, drawS s xs.length))
theorem d_law_pick {α : Type} [Enc α] : S1 rpZ G_law_pick (N_law_pick (α := α)) := fun h v s F xs p nd => by
  obtain ⟨i, rfl, hi, rfl, ok⟩ := p
  unfold N_law_pick N.chk
  by_cases c : 0 < xs.length ∧ xs.length < 1000000000000
  · rw [if_pos c]
    have dl := draw_lt (S := s) (n := xs.length) (by omega)
    have hk : (drawV s xs.length).toNat < xs.length := by omega
    rw [List.getElem?_eq_getElem hk]
    have hl : i < h.length := (List.getElem?_eq_some_iff.mp hi).1
    have g : G_law_pick [.ref i, enc xs] h = .ok (enc xs[(drawV s xs.length).toNat]) (h.set i (strmC (drawS s xs.length))) := by
      show (match strm? (cellAt h i) with
        | some S => if S.ok ∧ 0 < (xs.map (enc : α → Val)).length ∧ (xs.map (enc : α → Val)).length < 1000000000000 then (match (xs.map (enc : α → Val))[(drawV S (xs.map (enc : α → Val)).length).toNat]? with
          | some v => R.ok v (h.set i (strmC (drawS S (xs.map (enc : α → Val)).length)))
          | none => .bad) else .bad
        | none => .bad) = _
      rw [strm?_at ⟨hi, ok⟩, List.length_map]
      simp only
      rw [if_pos ⟨ok, c⟩, List.getElem?_map, List.getElem?_eq_getElem hk]
      rfl
    exact ⟨_, g, ⟨[i], rpZ_mk (List.getElem?_set_self hl) (draw_ok ok (by omega)), by simp, fun j hj => .inl hj⟩, by rw [List.length_set]; exact Nat.le_refl _, fun j hj hx => List.getElem?_set_ne fun z => hx (by rw [z]; exact List.mem_singleton.mpr rfl)⟩
  · rw [if_neg c]; trivial
theorem pick_Ok {α : Type} {s : Strm} {xs : List α} (h : 0 < xs.length ∧ xs.length < 1000000000000) : (noE (N_law_pick s xs)).Ok fun p => p.1 ∈ xs := by
  unfold N_law_pick
  rw [N.chk_t h]
  have dl := draw_lt (S := s) (n := xs.length) (by omega)
  have hk : (drawV s xs.length).toNat < xs.length := by omega
  rw [List.getElem?_eq_getElem hk]
  exact ⟨_, rfl, List.getElem_mem hk⟩
theorem pick_i {α : Type} {s : Strm} {xs : List α} {Q : α × Strm → Prop} (h : 0 < xs.length ∧ xs.length < 1000000000000) (q : ∀ x ∈ xs, ∀ s', Q (x, s')) : (noE (N_law_pick s xs)).Ok Q :=
  (pick_Ok h).imp fun p hp => q p.1 hp p.2
/-! ### _law_stream -/
def N_law_stream (xs : List Int) : N Strm := .chk (xs.length ≤ 63) (.ok (newS xs))
theorem d_law_stream : ∀ (xs : List Int) h, NewS rpZ h (G_law_stream [.kl (xs.map enc)] h) (N_law_stream xs) := fun xs h => by
  unfold N_law_stream N.chk
  split
  · rename_i c
    exact ⟨.ref h.length, h ++ [strmC (newS xs)], [h.length], stream_spec c, rpZ_mk (by simp) (newS_ok c), by simp, fun j hj => by simp at hj; omega, by simp, fun j hj => by rw [List.getElem?_append_left hj]⟩
  · trivial
/-! ### _law_word -/
def N_law_word (stream_ : Strm) : N (Int × Strm) :=
  ((((((((((((((((((((((noE (N_law_draw stream_ (65536 : Int))).bind2 fun t3 s4 => ((mulI t3 (65536 : Int)).bind fun t5 => N.ok (t5, s4))).bind2 fun t6 s7 => ((noE (N_law_draw s7 (65536 : Int))).bind2 fun t8 s9 => (N.ok ((t6 + t8), s9)))).bind2 fun t10 s11 => (N.ok ((t10 - (2147483648 : Int)), s11))).bind2 fun t12 s13 => (N.ok ((t12 :: ([] : List Int)), s13))).bind2 fun t14 s15 => (N.ok (((-(2147483648 : Int)) :: t14), s15))).bind2 fun t16 s17 => (N.ok (((2147483647 : Int) :: t16), s17))).bind2 fun t18 s19 => (N.ok (((65536 : Int) :: t18), s19))).bind2 fun t20 s21 => (N.ok (((100 : Int) :: t20), s21))).bind2 fun t22 s23 => (N.ok (((32 : Int) :: t22), s23))).bind2 fun t24 s25 => (N.ok (((31 : Int) :: t24), s25))).bind2 fun t26 s27 => (N.ok (((-(2 : Int)) :: t26), s27))).bind2 fun t28 s29 => (N.ok (((7 : Int) :: t28), s29))).bind2 fun t30 s31 => (N.ok (((5 : Int) :: t30), s31))).bind2 fun t32 s33 => (N.ok (((-(1 : Int)) :: t32), s33))).bind2 fun t34 s35 => (N.ok (((3 : Int) :: t34), s35))).bind2 fun t36 s37 => (N.ok (((2 : Int) :: t36), s37))).bind2 fun t38 s39 => (N.ok (((1 : Int) :: t38), s39))).bind2 fun t40 s41 => (N.ok (((0 : Int) :: t40), s41))).bind2 fun t42 s43 => ((szN t42).bind fun t44 => N.ok (t44, s43))).bind2 fun t45 s46 => (noE (N_law_pick s46 t45))).bind2 fun t1 s2 => N.ok (t1, s2))
theorem d_law_word : S0 rpZ G_law_word N_law_word := fun h v_0 stream_ F  p nd => by
  exact sim_defS (n := 1) (l := 1) (body := M_law_word_b) (us := [v_0]) rfl p nd (bs_ret (ma := (fun s47 => (((((((((((((((((((((noE (N_law_draw s47 (65536 : Int))).bind2 fun t48 s49 => ((mulI t48 (65536 : Int)).bind fun t50 => N.ok (t50, s49))).bind2 fun t51 s52 => ((noE (N_law_draw s52 (65536 : Int))).bind2 fun t53 s54 => (N.ok ((t51 + t53), s54)))).bind2 fun t55 s56 => (N.ok ((t55 - (2147483648 : Int)), s56))).bind2 fun t57 s58 => (N.ok ((t57 :: ([] : List Int)), s58))).bind2 fun t59 s60 => (N.ok (((-(2147483648 : Int)) :: t59), s60))).bind2 fun t61 s62 => (N.ok (((2147483647 : Int) :: t61), s62))).bind2 fun t63 s64 => (N.ok (((65536 : Int) :: t63), s64))).bind2 fun t65 s66 => (N.ok (((100 : Int) :: t65), s66))).bind2 fun t67 s68 => (N.ok (((32 : Int) :: t67), s68))).bind2 fun t69 s70 => (N.ok (((31 : Int) :: t69), s70))).bind2 fun t71 s72 => (N.ok (((-(2 : Int)) :: t71), s72))).bind2 fun t73 s74 => (N.ok (((7 : Int) :: t73), s74))).bind2 fun t75 s76 => (N.ok (((5 : Int) :: t75), s76))).bind2 fun t77 s78 => (N.ok (((-(1 : Int)) :: t77), s78))).bind2 fun t79 s80 => (N.ok (((3 : Int) :: t79), s80))).bind2 fun t81 s82 => (N.ok (((2 : Int) :: t81), s82))).bind2 fun t83 s84 => (N.ok (((1 : Int) :: t83), s84))).bind2 fun t85 s86 => (N.ok (((0 : Int) :: t85), s86))).bind2 fun t87 s88 => ((szN t87).bind fun t89 => N.ok (t89, s88))).bind2 fun t90 s91 => (noE (N_law_pick s91 t90))))) rfl (es_eq (es_s1 (i := 0) d_law_pick rfl rfl (es_lst (lS_cons (es_pure fun _ => (ej_c (a := (0 : Int)) rfl)) (lS_cons (es_pure fun _ => (ej_c (a := (1 : Int)) rfl)) (lS_cons (es_pure fun _ => (ej_c (a := (2 : Int)) rfl)) (lS_cons (es_pure fun _ => (ej_c (a := (3 : Int)) rfl)) (lS_cons (es_pure fun _ => (ej_un o_negI (rj_e (ej_c (a := (1 : Int)) rfl)))) (lS_cons (es_pure fun _ => (ej_c (a := (5 : Int)) rfl)) (lS_cons (es_pure fun _ => (ej_c (a := (7 : Int)) rfl)) (lS_cons (es_pure fun _ => (ej_un o_negI (rj_e (ej_c (a := (2 : Int)) rfl)))) (lS_cons (es_pure fun _ => (ej_c (a := (31 : Int)) rfl)) (lS_cons (es_pure fun _ => (ej_c (a := (32 : Int)) rfl)) (lS_cons (es_pure fun _ => (ej_c (a := (100 : Int)) rfl)) (lS_cons (es_pure fun _ => (ej_c (a := (65536 : Int)) rfl)) (lS_cons (es_pure fun _ => (ej_c (a := (2147483647 : Int)) rfl)) (lS_cons (es_pure fun _ => (ej_un o_negI (rj_e (ej_c (a := (2147483648 : Int)) rfl)))) (lS_cons (es_bin (e2 o_subI) (es_bin (e2 o_addI) (es_bin (e2 o_mulI) (es_s1 (i := 0) d_law_draw rfl rfl (es_pure fun _ => (ej_c (a := (65536 : Int)) rfl))) (fun _ => (es_pure fun _ => (ej_c (a := (65536 : Int)) rfl)))) (fun _ => (es_s1 (i := 0) d_law_draw rfl rfl (es_pure fun _ => (ej_c (a := (65536 : Int)) rfl))))) (fun _ => (es_pure fun _ => (ej_c (a := (2147483648 : Int)) rfl)))) lS_nil)))))))))))))))))))
/-! ### _law_operators -/
def N_law_operators (kind_ : List Nat) : N (List (List Nat)) :=
  ((N.ok (decide (kind_ = ([102, 111, 108, 100] : List Nat)))).bind fun k1 => if k1 = true then ((szN (([97, 100, 100] : List Nat) :: (([109, 105, 110] : List Nat) :: (([109, 97, 120] : List Nat) :: (([97, 110, 100] : List Nat) :: (([111, 114] : List Nat) :: (([120, 111, 114] : List Nat) :: ([] : List (List Nat))))))))).bind fun t2 => N.ok t2) else ((N.ok (decide (kind_ = ([117, 110, 97, 114, 121] : List Nat)))).bind fun k3 => if k3 = true then ((szN (([110, 101, 103] : List Nat) :: (([110, 111, 116] : List Nat) :: (([122, 101, 114, 111] : List Nat) :: ([] : List (List Nat)))))).bind fun t4 => N.ok t4) else ((szN (([97, 100, 100] : List Nat) :: (([115, 117, 98] : List Nat) :: (([109, 117, 108] : List Nat) :: (([100, 105, 118] : List Nat) :: (([114, 101, 109] : List Nat) :: (([97, 110, 100] : List Nat) :: (([111, 114] : List Nat) :: (([120, 111, 114] : List Nat) :: (([115, 104, 108] : List Nat) :: (([115, 104, 114] : List Nat) :: (([108, 116] : List Nat) :: (([108, 101] : List Nat) :: (([101, 113] : List Nat) :: (([110, 101] : List Nat) :: (([109, 105, 110] : List Nat) :: (([109, 97, 120] : List Nat) :: ([] : List (List Nat))))))))))))))))))).bind fun t5 => N.ok t5)))
theorem d_law_operators : D1 G_law_operators N_law_operators := fun h v_0 kind_ e_0 => by
  cases e_0; exact sim_def rfl (bj_ifnf (ts_eq (ts_e (ej_bin o_eqS (rj_e (ej_v (i := 0) (a := kind_) rfl)) (rj_e (ej_c (a := ([102, 111, 108, 100] : List Nat)) rfl))))) (bj_ret (ej_eq (ej_lst (ls_cons (ej_c (a := ([97, 100, 100] : List Nat)) rfl) (ls_cons (ej_c (a := ([109, 105, 110] : List Nat)) rfl) (ls_cons (ej_c (a := ([109, 97, 120] : List Nat)) rfl) (ls_cons (ej_c (a := ([97, 110, 100] : List Nat)) rfl) (ls_cons (ej_c (a := ([111, 114] : List Nat)) rfl) (ls_cons (ej_c (a := ([120, 111, 114] : List Nat)) rfl) ls_nil))))))))) (bj_skip (bj_ifnf (ts_eq (ts_e (ej_bin o_eqS (rj_e (ej_v (i := 0) (a := kind_) rfl)) (rj_e (ej_c (a := ([117, 110, 97, 114, 121] : List Nat)) rfl))))) (bj_ret (ej_eq (ej_lst (ls_cons (ej_c (a := ([110, 101, 103] : List Nat)) rfl) (ls_cons (ej_c (a := ([110, 111, 116] : List Nat)) rfl) (ls_cons (ej_c (a := ([122, 101, 114, 111] : List Nat)) rfl) ls_nil)))))) (bj_skip (bj_ret (ej_eq (ej_lst (ls_cons (ej_c (a := ([97, 100, 100] : List Nat)) rfl) (ls_cons (ej_c (a := ([115, 117, 98] : List Nat)) rfl) (ls_cons (ej_c (a := ([109, 117, 108] : List Nat)) rfl) (ls_cons (ej_c (a := ([100, 105, 118] : List Nat)) rfl) (ls_cons (ej_c (a := ([114, 101, 109] : List Nat)) rfl) (ls_cons (ej_c (a := ([97, 110, 100] : List Nat)) rfl) (ls_cons (ej_c (a := ([111, 114] : List Nat)) rfl) (ls_cons (ej_c (a := ([120, 111, 114] : List Nat)) rfl) (ls_cons (ej_c (a := ([115, 104, 108] : List Nat)) rfl) (ls_cons (ej_c (a := ([115, 104, 114] : List Nat)) rfl) (ls_cons (ej_c (a := ([108, 116] : List Nat)) rfl) (ls_cons (ej_c (a := ([108, 101] : List Nat)) rfl) (ls_cons (ej_c (a := ([101, 113] : List Nat)) rfl) (ls_cons (ej_c (a := ([110, 101] : List Nat)) rfl) (ls_cons (ej_c (a := ([109, 105, 110] : List Nat)) rfl) (ls_cons (ej_c (a := ([109, 97, 120] : List Nat)) rfl) ls_nil)))))))))))))))))))))))
/-! ### _law_instruction -/
def N_law_instruction (stream_ : Strm) (graph_params_ : D) (shared_ : D) (many_ : Int) : N (D × Strm) :=
  ((noE (N_law_draw stream_ many_)).bind2 fun (d_2 : Int) s1 => ((noE (N_law_draw s1 many_)).bind2 fun (r_4 : Int) s3 => ((noE (N_law_draw s3 many_)).bind2 fun (s_6 : Int) s5 => ((((D.len graph_params_).bind fun t7 => (range1N t7)).bind fun t12 => (noE (lcN (fun (x8 : Int) => (((D.ix graph_params_ x8).bind fun t10 => (D.ix t10 (1 : Int))).bind fun t11 => (eqD t11 (toD ([105, 110, 116] : List Nat))))) (fun (x8 : Int) => (N.ok x8)) 0 t12))).bind fun (ints_13 : (List Int)) => (((((D.len graph_params_).bind fun t23 => (range1N t23)).bind fun t28 => (noE (lcN (fun (x24 : Int) => (((D.ix graph_params_ x24).bind fun t26 => (D.ix t26 (1 : Int))).bind fun t27 => (eqD t27 (toD ([98, 117, 102, 102, 101, 114] : List Nat))))) (fun (x24 : Int) => (N.ok x24)) 0 t28))).bind fun t32 => ((((D.len shared_).bind fun t29 => (range1N t29)).bind fun t31 => (noE (lcN (fun (x30 : Int) => (N.ok true)) (fun (x30 : Int) => (N.ok ((6 : Int) + x30))) 0 t31))).bind fun t33 => (szN (t32 ++ t33)))).bind fun (arrays_34 : (List Int)) => ((noE (N_law_draw s5 (14 : Int))).bind2 fun (pick_36 : Int) s35 => ((N.ok (decide (pick_36 < (2 : Int)))).bind fun k37 => if k37 = true then (((((((((((((((noE (N_law_word s35)).bind2 fun t40 s41 => (N.ok ((t40 :: ([] : List Int)), s41))).bind2 fun t42 s43 => (N.ok (((-(1 : Int)) :: t42), s43))).bind2 fun t44 s45 => (N.ok (((3 : Int) :: t44), s45))).bind2 fun t46 s47 => (N.ok (((2 : Int) :: t46), s47))).bind2 fun t48 s49 => (N.ok (((1 : Int) :: t48), s49))).bind2 fun t50 s51 => (N.ok (((0 : Int) :: t50), s51))).bind2 fun t52 s53 => ((szN t52).bind fun t54 => N.ok (t54, s53))).bind2 fun t55 s56 => (noE (N_law_pick s56 t55))).bind2 fun t57 s58 => (N.ok ((toD t57), s58))).bind2 fun t59 s60 => (N.ok ((t59 :: ([] : List D)), s60))).bind2 fun t61 s62 => (N.ok (((toD d_2) :: t61), s62))).bind2 fun t63 s64 => (N.ok (((toD ([119, 111, 114, 100] : List Nat)) :: t63), s64))).bind2 fun t65 s66 => (((szN t65).bind fun t67 => (N.ok (D.tup t67))).bind fun t68 => N.ok (t68, s66))).bind2 fun t38 s39 => N.ok (t38, s39)) else ((if (decide (pick_36 = (2 : Int))) = true then (N.ok (!(List.isEmpty ints_13))) else N.ok false).bind fun k99 => if k99 = true then (((((((noE (N_law_pick s35 ints_13)).bind2 fun t102 s103 => (N.ok ((toD t102), s103))).bind2 fun t104 s105 => (N.ok ((t104 :: ([] : List D)), s105))).bind2 fun t106 s107 => (N.ok (((toD d_2) :: t106), s107))).bind2 fun t108 s109 => (N.ok (((toD ([112, 97, 114, 97, 109] : List Nat)) :: t108), s109))).bind2 fun t110 s111 => (((szN t110).bind fun t112 => (N.ok (D.tup t112))).bind fun t113 => N.ok (t113, s111))).bind2 fun t100 s101 => N.ok (t100, s101)) else ((N.ok (decide (pick_36 = (3 : Int)))).bind fun k127 => if k127 = true then (((((((((szN (([116, 105, 100] : List Nat) :: (([98, 105, 100] : List Nat) :: (([100, 105, 109] : List Nat) :: (([103, 114, 105, 100] : List Nat) :: ([] : List (List Nat))))))).bind fun t130 => N.ok (t130, s35)).bind2 fun t131 s132 => (noE (N_law_pick s132 t131))).bind2 fun t133 s134 => (N.ok ((toD t133), s134))).bind2 fun t135 s136 => (N.ok ((t135 :: ([] : List D)), s136))).bind2 fun t137 s138 => (N.ok (((toD d_2) :: t137), s138))).bind2 fun t139 s140 => (N.ok (((toD ([115, 112, 101, 99, 105, 97, 108] : List Nat)) :: t139), s140))).bind2 fun t141 s142 => (((szN t141).bind fun t143 => (N.ok (D.tup t143))).bind fun t144 => N.ok (t144, s142))).bind2 fun t128 s129 => N.ok (t128, s129)) else ((N.ok (decide (pick_36 = (4 : Int)))).bind fun k161 => if k161 = true then ((((szN ((toD ([99, 111, 112, 121] : List Nat)) :: ((toD d_2) :: ((toD r_4) :: ([] : List D))))).bind fun t162 => (N.ok (D.tup t162))).bind fun t165 => N.ok (t165, s35)).bind2 fun t163 s164 => N.ok (t163, s164)) else ((N.ok (decide (pick_36 = (5 : Int)))).bind fun k168 => if k168 = true then ((((((((noE (N_law_operators ([117, 110, 97, 114, 121] : List Nat))).bind fun t171 => N.ok (t171, s35)).bind2 fun t172 s173 => (noE (N_law_pick s173 t172))).bind2 fun t174 s175 => (N.ok ((toD t174), s175))).bind2 fun t176 s177 => (N.ok ((t176 :: ((toD d_2) :: ((toD r_4) :: ([] : List D)))), s177))).bind2 fun t178 s179 => (N.ok (((toD ([117, 110, 97, 114, 121] : List Nat)) :: t178), s179))).bind2 fun t180 s181 => (((szN t180).bind fun t182 => (N.ok (D.tup t182))).bind fun t183 => N.ok (t183, s181))).bind2 fun t169 s170 => N.ok (t169, s170)) else ((if (decide (pick_36 = (6 : Int))) = true then (N.ok (!(List.isEmpty arrays_34))) else N.ok false).bind fun k198 => if k198 = true then (((((((noE (N_law_pick s35 arrays_34)).bind2 fun t201 s202 => (N.ok ((toD t201), s202))).bind2 fun t203 s204 => (N.ok ((t203 :: ((toD r_4) :: ([] : List D))), s204))).bind2 fun t205 s206 => (N.ok (((toD d_2) :: t205), s206))).bind2 fun t207 s208 => (N.ok (((toD ([108, 111, 97, 100] : List Nat)) :: t207), s208))).bind2 fun t209 s210 => (((szN t209).bind fun t211 => (N.ok (D.tup t211))).bind fun t212 => N.ok (t212, s210))).bind2 fun t199 s200 => N.ok (t199, s200)) else ((if (decide (pick_36 = (7 : Int))) = true then (N.ok (!(List.isEmpty arrays_34))) else N.ok false).bind fun k226 => if k226 = true then ((((((((noE (N_law_operators ([102, 111, 108, 100] : List Nat))).bind fun t229 => N.ok (t229, s35)).bind2 fun t230 s231 => (noE (N_law_pick s231 t230))).bind2 fun t232 s233 => (N.ok ((toD t232), s233))).bind2 fun t234 s235 => ((((noE (N_law_pick s235 arrays_34)).bind2 fun t236 s237 => (N.ok ((toD t236), s237))).bind2 fun t238 s239 => (N.ok ((t238 :: ((toD r_4) :: ((toD s_6) :: ([] : List D)))), s239))).bind2 fun t240 s241 => (N.ok ((t234 :: t240), s241)))).bind2 fun t242 s243 => (N.ok (((toD ([97, 116, 111, 109, 105, 99] : List Nat)) :: t242), s243))).bind2 fun t244 s245 => (((szN t244).bind fun t246 => (N.ok (D.tup t246))).bind fun t247 => N.ok (t247, s245))).bind2 fun t227 s228 => N.ok (t227, s228)) else ((if (decide (pick_36 < (10 : Int))) = true then (N.ok (!(List.isEmpty arrays_34))) else N.ok false).bind fun k268 => if k268 = true then ((((((noE (N_law_pick s35 arrays_34)).bind2 fun t271 s272 => (N.ok ((toD t271), s272))).bind2 fun t273 s274 => (N.ok ((t273 :: ((toD r_4) :: ((toD s_6) :: ([] : List D)))), s274))).bind2 fun t275 s276 => (N.ok (((toD ([115, 116, 111, 114, 101] : List Nat)) :: t275), s276))).bind2 fun t277 s278 => (((szN t277).bind fun t279 => (N.ok (D.tup t279))).bind fun t280 => N.ok (t280, s278))).bind2 fun t269 s270 => N.ok (t269, s270)) else ((N.ok (decide (pick_36 = (10 : Int)))).bind fun k292 => if k292 = true then (((((((((noE (N_law_draw s35 (3 : Int))).bind2 fun t295 s296 => (N.ok ((toD t295), s296))).bind2 fun t297 s298 => (N.ok ((t297 :: ([] : List D)), s298))).bind2 fun t299 s300 => (N.ok (((toD ([98, 97, 114, 114, 105, 101, 114] : List Nat)) :: t299), s300))).bind2 fun t301 s302 => (((szN t301).bind fun t303 => (N.ok (D.tup t303))).bind fun t304 => N.ok (t304, s302))).bind2 fun t305 s306 => (((((((((noE (N_law_operators ([102, 111, 108, 100] : List Nat))).bind fun t307 => N.ok (t307, s306)).bind2 fun t308 s309 => (noE (N_law_pick s309 t308))).bind2 fun t310 s311 => (N.ok ((toD t310), s311))).bind2 fun t312 s313 => ((((((noE (N_law_draw s313 (3 : Int))).bind2 fun t314 s315 => (N.ok ((toD t314), s315))).bind2 fun t316 s317 => (N.ok ((t316 :: ([] : List D)), s317))).bind2 fun t318 s319 => (N.ok (((toD r_4) :: t318), s319))).bind2 fun t320 s321 => (N.ok (((toD d_2) :: t320), s321))).bind2 fun t322 s323 => (N.ok ((t312 :: t322), s323)))).bind2 fun t324 s325 => (N.ok (((toD ([99, 111, 108, 108, 101, 99, 116] : List Nat)) :: t324), s325))).bind2 fun t326 s327 => (((szN t326).bind fun t328 => (N.ok (D.tup t328))).bind fun t329 => N.ok (t329, s327))).bind2 fun t330 s331 => (N.ok ((t330 :: ([] : List D)), s331))).bind2 fun t332 s333 => (N.ok ((t305 :: t332), s333)))).bind2 fun t334 s335 => ((szN t334).bind fun t336 => N.ok (t336, s335))).bind2 fun t337 s338 => (noE (N_law_pick s338 t337))).bind2 fun t293 s294 => N.ok (t293, s294)) else ((((((((noE (N_law_operators ([98, 105, 110, 97, 114, 121] : List Nat))).bind fun t386 => N.ok (t386, s35)).bind2 fun t387 s388 => (noE (N_law_pick s388 t387))).bind2 fun t389 s390 => (N.ok ((toD t389), s390))).bind2 fun t391 s392 => (N.ok ((t391 :: ((toD d_2) :: ((toD r_4) :: ((toD s_6) :: ([] : List D))))), s392))).bind2 fun t393 s394 => (N.ok (((toD ([98, 105, 110, 97, 114, 121] : List Nat)) :: t393), s394))).bind2 fun t395 s396 => (((szN t395).bind fun t397 => (N.ok (D.tup t397))).bind fun t398 => N.ok (t398, s396))).bind2 fun t384 s385 => N.ok (t384, s385)))))))))))))))))
theorem d_law_instruction : S3 rpZ G_law_instruction N_law_instruction := fun h v_0 stream_ F graph_params_ shared_ many_ p nd => by
  exact sim_defS (n := 4) (l := 11) (body := M_law_instruction_b) (us := [v_0, enc graph_params_, enc shared_, enc many_]) rfl p nd (bs_set (i := 4) (k := 0) (s := stream_) (ma := (fun s416 => (noE (N_law_draw s416 many_)))) rfl (es_eq (es_s1 (i := 0) d_law_draw rfl rfl (es_pure fun _ => (ej_v (i := 3) (a := many_) rfl)))) (fun d_2 s1 => (bs_set (i := 5) (k := 0) (s := s1) (ma := (fun s415 => (noE (N_law_draw s415 many_)))) rfl (es_eq (es_s1 (i := 0) d_law_draw rfl rfl (es_pure fun _ => (ej_v (i := 3) (a := many_) rfl)))) (fun r_4 s3 => (bs_set (i := 6) (k := 0) (s := s3) (ma := (fun s414 => (noE (N_law_draw s414 many_)))) rfl (es_eq (es_s1 (i := 0) d_law_draw rfl rfl (es_pure fun _ => (ej_v (i := 3) (a := many_) rfl)))) (fun s_6 s5 => (bj_set (i := 7) (ej_eq (ej_lc (t := (fun (x8 : Int) => (((D.ix graph_params_ x8).bind fun t10 => (D.ix t10 (1 : Int))).bind fun t11 => (eqD t11 (toD ([105, 110, 116] : List Nat)))))) (ff := (fun (x8 : Int) => (N.ok x8))) (ij_range1 (ej_b1 b_lenD (rj_e (ej_v (i := 1) (a := graph_params_) rfl)))) tgt_nm (fun x8 => (ts_eq (ts_e (ej_bin o_eqD (rj_e (ej_bin o_ixD (rj_e (ej_bin o_ixD (rj_e (ej_v (i := 1) (a := graph_params_) rfl)) (rj_e (ej_v (i := 10) (a := x8) rfl)))) (rj_e (ej_c (a := (1 : Int)) rfl)))) (rj_e (ej_toD (ej_c (a := ([105, 110, 116] : List Nat)) rfl))))))) (fun x8 => ej_eq (ej_v (i := 10) (a := x8) rfl))) ) (fun ints_13 => (bj_set (i := 8) (ej_eq (ej_binE o_addL (ej_lc (t := (fun (x24 : Int) => (((D.ix graph_params_ x24).bind fun t26 => (D.ix t26 (1 : Int))).bind fun t27 => (eqD t27 (toD ([98, 117, 102, 102, 101, 114] : List Nat)))))) (ff := (fun (x24 : Int) => (N.ok x24))) (ij_range1 (ej_b1 b_lenD (rj_e (ej_v (i := 1) (a := graph_params_) rfl)))) tgt_nm (fun x24 => (ts_eq (ts_e (ej_bin o_eqD (rj_e (ej_bin o_ixD (rj_e (ej_bin o_ixD (rj_e (ej_v (i := 1) (a := graph_params_) rfl)) (rj_e (ej_v (i := 10) (a := x24) rfl)))) (rj_e (ej_c (a := (1 : Int)) rfl)))) (rj_e (ej_toD (ej_c (a := ([98, 117, 102, 102, 101, 114] : List Nat)) rfl))))))) (fun x24 => ej_eq (ej_v (i := 10) (a := x24) rfl))) (ej_lc (t := (fun (x30 : Int) => (N.ok true))) (ff := (fun (x30 : Int) => (N.ok ((6 : Int) + x30)))) (ij_range1 (ej_b1 b_lenD (rj_e (ej_v (i := 2) (a := shared_) rfl)))) tgt_nm (fun x30 => ts_true) (fun x30 => ej_eq (ej_bin o_addI (rj_e (ej_c (a := (6 : Int)) rfl)) (rj_e (ej_v (i := 10) (a := x30) rfl)))))) ) (fun arrays_34 => (bs_set (i := 9) (k := 0) (s := s5) (ma := (fun s413 => (noE (N_law_draw s413 (14 : Int))))) rfl (es_eq (es_s1 (i := 0) d_law_draw rfl rfl (es_pure fun _ => (ej_c (a := (14 : Int)) rfl)))) (fun pick_36 s35 => (bj_ifnf (ts_eq (ts_e (ej_bin o_ltI (rj_e (ej_v (i := 9) (a := pick_36) rfl)) (rj_e (ej_c (a := (2 : Int)) rfl))))) (bs_ret (ma := (fun s69 => ((((((((((((((noE (N_law_word s69)).bind2 fun t70 s71 => (N.ok ((t70 :: ([] : List Int)), s71))).bind2 fun t72 s73 => (N.ok (((-(1 : Int)) :: t72), s73))).bind2 fun t74 s75 => (N.ok (((3 : Int) :: t74), s75))).bind2 fun t76 s77 => (N.ok (((2 : Int) :: t76), s77))).bind2 fun t78 s79 => (N.ok (((1 : Int) :: t78), s79))).bind2 fun t80 s81 => (N.ok (((0 : Int) :: t80), s81))).bind2 fun t82 s83 => ((szN t82).bind fun t84 => N.ok (t84, s83))).bind2 fun t85 s86 => (noE (N_law_pick s86 t85))).bind2 fun t87 s88 => (N.ok ((toD t87), s88))).bind2 fun t89 s90 => (N.ok ((t89 :: ([] : List D)), s90))).bind2 fun t91 s92 => (N.ok (((toD d_2) :: t91), s92))).bind2 fun t93 s94 => (N.ok (((toD ([119, 111, 114, 100] : List Nat)) :: t93), s94))).bind2 fun t95 s96 => (((szN t95).bind fun t97 => (N.ok (D.tup t97))).bind fun t98 => N.ok (t98, s96))))) rfl (es_eq (es_tupD (lS_cons (es_pure fun _ => (ej_toD (ej_c (a := ([119, 111, 114, 100] : List Nat)) rfl))) (lS_cons (es_pure fun _ => (ej_toD (ej_v (i := 4) (a := d_2) rfl))) (lS_cons (es_toD (es_s1 (i := 0) d_law_pick rfl rfl (es_lst (lS_cons (es_pure fun _ => (ej_c (a := (0 : Int)) rfl)) (lS_cons (es_pure fun _ => (ej_c (a := (1 : Int)) rfl)) (lS_cons (es_pure fun _ => (ej_c (a := (2 : Int)) rfl)) (lS_cons (es_pure fun _ => (ej_c (a := (3 : Int)) rfl)) (lS_cons (es_pure fun _ => (ej_un o_negI (rj_e (ej_c (a := (1 : Int)) rfl)))) (lS_cons (es_s0 (i := 0) d_law_word rfl rfl ) lS_nil))))))))) lS_nil)))))) (bj_skip (bj_ifnf (ts_eq (ts_and (ts_e (ej_bin o_eqI (rj_e (ej_v (i := 9) (a := pick_36) rfl)) (rj_e (ej_c (a := (2 : Int)) rfl)))) (ts_tru t_L ok_x (rj_e (ej_v (i := 7) (a := ints_13) rfl))))) (bs_ret (ma := (fun s114 => ((((((noE (N_law_pick s114 ints_13)).bind2 fun t115 s116 => (N.ok ((toD t115), s116))).bind2 fun t117 s118 => (N.ok ((t117 :: ([] : List D)), s118))).bind2 fun t119 s120 => (N.ok (((toD d_2) :: t119), s120))).bind2 fun t121 s122 => (N.ok (((toD ([112, 97, 114, 97, 109] : List Nat)) :: t121), s122))).bind2 fun t123 s124 => (((szN t123).bind fun t125 => (N.ok (D.tup t125))).bind fun t126 => N.ok (t126, s124))))) rfl (es_eq (es_tupD (lS_cons (es_pure fun _ => (ej_toD (ej_c (a := ([112, 97, 114, 97, 109] : List Nat)) rfl))) (lS_cons (es_pure fun _ => (ej_toD (ej_v (i := 4) (a := d_2) rfl))) (lS_cons (es_toD (es_s1 (i := 0) d_law_pick rfl rfl (es_pure fun _ => (ej_v (i := 7) (a := ints_13) rfl)))) lS_nil)))))) (bj_skip (bj_ifnf (ts_eq (ts_e (ej_bin o_eqI (rj_e (ej_v (i := 9) (a := pick_36) rfl)) (rj_e (ej_c (a := (3 : Int)) rfl))))) (bs_ret (ma := (fun s145 => ((((((((szN (([116, 105, 100] : List Nat) :: (([98, 105, 100] : List Nat) :: (([100, 105, 109] : List Nat) :: (([103, 114, 105, 100] : List Nat) :: ([] : List (List Nat))))))).bind fun t146 => N.ok (t146, s145)).bind2 fun t147 s148 => (noE (N_law_pick s148 t147))).bind2 fun t149 s150 => (N.ok ((toD t149), s150))).bind2 fun t151 s152 => (N.ok ((t151 :: ([] : List D)), s152))).bind2 fun t153 s154 => (N.ok (((toD d_2) :: t153), s154))).bind2 fun t155 s156 => (N.ok (((toD ([115, 112, 101, 99, 105, 97, 108] : List Nat)) :: t155), s156))).bind2 fun t157 s158 => (((szN t157).bind fun t159 => (N.ok (D.tup t159))).bind fun t160 => N.ok (t160, s158))))) rfl (es_eq (es_tupD (lS_cons (es_pure fun _ => (ej_toD (ej_c (a := ([115, 112, 101, 99, 105, 97, 108] : List Nat)) rfl))) (lS_cons (es_pure fun _ => (ej_toD (ej_v (i := 4) (a := d_2) rfl))) (lS_cons (es_toD (es_s1 (i := 0) d_law_pick rfl rfl (es_pure fun _ => (ej_lst (ls_cons (ej_c (a := ([116, 105, 100] : List Nat)) rfl) (ls_cons (ej_c (a := ([98, 105, 100] : List Nat)) rfl) (ls_cons (ej_c (a := ([100, 105, 109] : List Nat)) rfl) (ls_cons (ej_c (a := ([103, 114, 105, 100] : List Nat)) rfl) ls_nil)))))))) lS_nil)))))) (bj_skip (bj_ifnf (ts_eq (ts_e (ej_bin o_eqI (rj_e (ej_v (i := 9) (a := pick_36) rfl)) (rj_e (ej_c (a := (4 : Int)) rfl))))) (bs_ret (ma := (fun s166 => (((szN ((toD ([99, 111, 112, 121] : List Nat)) :: ((toD d_2) :: ((toD r_4) :: ([] : List D))))).bind fun t162 => (N.ok (D.tup t162))).bind fun t167 => N.ok (t167, s166)))) rfl (es_eq (es_pure fun _ => (ej_tupD (ls_cons (ej_toD (ej_c (a := ([99, 111, 112, 121] : List Nat)) rfl)) (ls_cons (ej_toD (ej_v (i := 4) (a := d_2) rfl)) (ls_cons (ej_toD (ej_v (i := 5) (a := r_4) rfl)) ls_nil))))))) (bj_skip (bj_ifnf (ts_eq (ts_e (ej_bin o_eqI (rj_e (ej_v (i := 9) (a := pick_36) rfl)) (rj_e (ej_c (a := (5 : Int)) rfl))))) (bs_ret (ma := (fun s184 => (((((((noE (N_law_operators ([117, 110, 97, 114, 121] : List Nat))).bind fun t185 => N.ok (t185, s184)).bind2 fun t186 s187 => (noE (N_law_pick s187 t186))).bind2 fun t188 s189 => (N.ok ((toD t188), s189))).bind2 fun t190 s191 => (N.ok ((t190 :: ((toD d_2) :: ((toD r_4) :: ([] : List D)))), s191))).bind2 fun t192 s193 => (N.ok (((toD ([117, 110, 97, 114, 121] : List Nat)) :: t192), s193))).bind2 fun t194 s195 => (((szN t194).bind fun t196 => (N.ok (D.tup t196))).bind fun t197 => N.ok (t197, s195))))) rfl (es_eq (es_tupD (lS_cons (es_pure fun _ => (ej_toD (ej_c (a := ([117, 110, 97, 114, 121] : List Nat)) rfl))) (lS_cons (es_toD (es_s1 (i := 0) d_law_pick rfl rfl (es_pure fun _ => (ej_d1 d_law_operators (vj_e (ej_c (a := ([117, 110, 97, 114, 121] : List Nat)) rfl)))))) (lS_cons (es_pure fun _ => (ej_toD (ej_v (i := 4) (a := d_2) rfl))) (lS_cons (es_pure fun _ => (ej_toD (ej_v (i := 5) (a := r_4) rfl))) lS_nil))))))) (bj_skip (bj_ifnf (ts_eq (ts_and (ts_e (ej_bin o_eqI (rj_e (ej_v (i := 9) (a := pick_36) rfl)) (rj_e (ej_c (a := (6 : Int)) rfl)))) (ts_tru t_L ok_x (rj_e (ej_v (i := 8) (a := arrays_34) rfl))))) (bs_ret (ma := (fun s213 => ((((((noE (N_law_pick s213 arrays_34)).bind2 fun t214 s215 => (N.ok ((toD t214), s215))).bind2 fun t216 s217 => (N.ok ((t216 :: ((toD r_4) :: ([] : List D))), s217))).bind2 fun t218 s219 => (N.ok (((toD d_2) :: t218), s219))).bind2 fun t220 s221 => (N.ok (((toD ([108, 111, 97, 100] : List Nat)) :: t220), s221))).bind2 fun t222 s223 => (((szN t222).bind fun t224 => (N.ok (D.tup t224))).bind fun t225 => N.ok (t225, s223))))) rfl (es_eq (es_tupD (lS_cons (es_pure fun _ => (ej_toD (ej_c (a := ([108, 111, 97, 100] : List Nat)) rfl))) (lS_cons (es_pure fun _ => (ej_toD (ej_v (i := 4) (a := d_2) rfl))) (lS_cons (es_toD (es_s1 (i := 0) d_law_pick rfl rfl (es_pure fun _ => (ej_v (i := 8) (a := arrays_34) rfl)))) (lS_cons (es_pure fun _ => (ej_toD (ej_v (i := 5) (a := r_4) rfl))) lS_nil))))))) (bj_skip (bj_ifnf (ts_eq (ts_and (ts_e (ej_bin o_eqI (rj_e (ej_v (i := 9) (a := pick_36) rfl)) (rj_e (ej_c (a := (7 : Int)) rfl)))) (ts_tru t_L ok_x (rj_e (ej_v (i := 8) (a := arrays_34) rfl))))) (bs_ret (ma := (fun s248 => (((((((noE (N_law_operators ([102, 111, 108, 100] : List Nat))).bind fun t249 => N.ok (t249, s248)).bind2 fun t250 s251 => (noE (N_law_pick s251 t250))).bind2 fun t252 s253 => (N.ok ((toD t252), s253))).bind2 fun t254 s255 => ((((noE (N_law_pick s255 arrays_34)).bind2 fun t256 s257 => (N.ok ((toD t256), s257))).bind2 fun t258 s259 => (N.ok ((t258 :: ((toD r_4) :: ((toD s_6) :: ([] : List D)))), s259))).bind2 fun t260 s261 => (N.ok ((t254 :: t260), s261)))).bind2 fun t262 s263 => (N.ok (((toD ([97, 116, 111, 109, 105, 99] : List Nat)) :: t262), s263))).bind2 fun t264 s265 => (((szN t264).bind fun t266 => (N.ok (D.tup t266))).bind fun t267 => N.ok (t267, s265))))) rfl (es_eq (es_tupD (lS_cons (es_pure fun _ => (ej_toD (ej_c (a := ([97, 116, 111, 109, 105, 99] : List Nat)) rfl))) (lS_cons (es_toD (es_s1 (i := 0) d_law_pick rfl rfl (es_pure fun _ => (ej_d1 d_law_operators (vj_e (ej_c (a := ([102, 111, 108, 100] : List Nat)) rfl)))))) (lS_cons (es_toD (es_s1 (i := 0) d_law_pick rfl rfl (es_pure fun _ => (ej_v (i := 8) (a := arrays_34) rfl)))) (lS_cons (es_pure fun _ => (ej_toD (ej_v (i := 5) (a := r_4) rfl))) (lS_cons (es_pure fun _ => (ej_toD (ej_v (i := 6) (a := s_6) rfl))) lS_nil)))))))) (bj_skip (bj_ifnf (ts_eq (ts_and (ts_e (ej_bin o_ltI (rj_e (ej_v (i := 9) (a := pick_36) rfl)) (rj_e (ej_c (a := (10 : Int)) rfl)))) (ts_tru t_L ok_x (rj_e (ej_v (i := 8) (a := arrays_34) rfl))))) (bs_ret (ma := (fun s281 => (((((noE (N_law_pick s281 arrays_34)).bind2 fun t282 s283 => (N.ok ((toD t282), s283))).bind2 fun t284 s285 => (N.ok ((t284 :: ((toD r_4) :: ((toD s_6) :: ([] : List D)))), s285))).bind2 fun t286 s287 => (N.ok (((toD ([115, 116, 111, 114, 101] : List Nat)) :: t286), s287))).bind2 fun t288 s289 => (((szN t288).bind fun t290 => (N.ok (D.tup t290))).bind fun t291 => N.ok (t291, s289))))) rfl (es_eq (es_tupD (lS_cons (es_pure fun _ => (ej_toD (ej_c (a := ([115, 116, 111, 114, 101] : List Nat)) rfl))) (lS_cons (es_toD (es_s1 (i := 0) d_law_pick rfl rfl (es_pure fun _ => (ej_v (i := 8) (a := arrays_34) rfl)))) (lS_cons (es_pure fun _ => (ej_toD (ej_v (i := 5) (a := r_4) rfl))) (lS_cons (es_pure fun _ => (ej_toD (ej_v (i := 6) (a := s_6) rfl))) lS_nil))))))) (bj_skip (bj_ifnf (ts_eq (ts_e (ej_bin o_eqI (rj_e (ej_v (i := 9) (a := pick_36) rfl)) (rj_e (ej_c (a := (10 : Int)) rfl))))) (bs_ret (ma := (fun s339 => ((((((((noE (N_law_draw s339 (3 : Int))).bind2 fun t340 s341 => (N.ok ((toD t340), s341))).bind2 fun t342 s343 => (N.ok ((t342 :: ([] : List D)), s343))).bind2 fun t344 s345 => (N.ok (((toD ([98, 97, 114, 114, 105, 101, 114] : List Nat)) :: t344), s345))).bind2 fun t346 s347 => (((szN t346).bind fun t348 => (N.ok (D.tup t348))).bind fun t349 => N.ok (t349, s347))).bind2 fun t350 s351 => (((((((((noE (N_law_operators ([102, 111, 108, 100] : List Nat))).bind fun t352 => N.ok (t352, s351)).bind2 fun t353 s354 => (noE (N_law_pick s354 t353))).bind2 fun t355 s356 => (N.ok ((toD t355), s356))).bind2 fun t357 s358 => ((((((noE (N_law_draw s358 (3 : Int))).bind2 fun t359 s360 => (N.ok ((toD t359), s360))).bind2 fun t361 s362 => (N.ok ((t361 :: ([] : List D)), s362))).bind2 fun t363 s364 => (N.ok (((toD r_4) :: t363), s364))).bind2 fun t365 s366 => (N.ok (((toD d_2) :: t365), s366))).bind2 fun t367 s368 => (N.ok ((t357 :: t367), s368)))).bind2 fun t369 s370 => (N.ok (((toD ([99, 111, 108, 108, 101, 99, 116] : List Nat)) :: t369), s370))).bind2 fun t371 s372 => (((szN t371).bind fun t373 => (N.ok (D.tup t373))).bind fun t374 => N.ok (t374, s372))).bind2 fun t375 s376 => (N.ok ((t375 :: ([] : List D)), s376))).bind2 fun t377 s378 => (N.ok ((t350 :: t377), s378)))).bind2 fun t379 s380 => ((szN t379).bind fun t381 => N.ok (t381, s380))).bind2 fun t382 s383 => (noE (N_law_pick s383 t382))))) rfl (es_eq (es_s1 (i := 0) d_law_pick rfl rfl (es_lst (lS_cons (es_tupD (lS_cons (es_pure fun _ => (ej_toD (ej_c (a := ([98, 97, 114, 114, 105, 101, 114] : List Nat)) rfl))) (lS_cons (es_toD (es_s1 (i := 0) d_law_draw rfl rfl (es_pure fun _ => (ej_c (a := (3 : Int)) rfl)))) lS_nil))) (lS_cons (es_tupD (lS_cons (es_pure fun _ => (ej_toD (ej_c (a := ([99, 111, 108, 108, 101, 99, 116] : List Nat)) rfl))) (lS_cons (es_toD (es_s1 (i := 0) d_law_pick rfl rfl (es_pure fun _ => (ej_d1 d_law_operators (vj_e (ej_c (a := ([102, 111, 108, 100] : List Nat)) rfl)))))) (lS_cons (es_pure fun _ => (ej_toD (ej_v (i := 4) (a := d_2) rfl))) (lS_cons (es_pure fun _ => (ej_toD (ej_v (i := 5) (a := r_4) rfl))) (lS_cons (es_toD (es_s1 (i := 0) d_law_draw rfl rfl (es_pure fun _ => (ej_c (a := (3 : Int)) rfl)))) lS_nil)))))) lS_nil)))))) (bj_skip (bs_ret (ma := (fun s399 => (((((((noE (N_law_operators ([98, 105, 110, 97, 114, 121] : List Nat))).bind fun t400 => N.ok (t400, s399)).bind2 fun t401 s402 => (noE (N_law_pick s402 t401))).bind2 fun t403 s404 => (N.ok ((toD t403), s404))).bind2 fun t405 s406 => (N.ok ((t405 :: ((toD d_2) :: ((toD r_4) :: ((toD s_6) :: ([] : List D))))), s406))).bind2 fun t407 s408 => (N.ok (((toD ([98, 105, 110, 97, 114, 121] : List Nat)) :: t407), s408))).bind2 fun t409 s410 => (((szN t409).bind fun t411 => (N.ok (D.tup t411))).bind fun t412 => N.ok (t412, s410))))) rfl (es_eq (es_tupD (lS_cons (es_pure fun _ => (ej_toD (ej_c (a := ([98, 105, 110, 97, 114, 121] : List Nat)) rfl))) (lS_cons (es_toD (es_s1 (i := 0) d_law_pick rfl rfl (es_pure fun _ => (ej_d1 d_law_operators (vj_e (ej_c (a := ([98, 105, 110, 97, 114, 121] : List Nat)) rfl)))))) (lS_cons (es_pure fun _ => (ej_toD (ej_v (i := 4) (a := d_2) rfl))) (lS_cons (es_pure fun _ => (ej_toD (ej_v (i := 5) (a := r_4) rfl))) (lS_cons (es_pure fun _ => (ej_toD (ej_v (i := 6) (a := s_6) rfl))) lS_nil))))))))))))))))))))))))))))))))))))))
/-! ### _law_code -/
def N_law_code (stream_ : Strm) : N (D × Strm) :=
  (((((((((szN ((toD ([110] : List Nat)) :: ((toD ([105, 110, 116] : List Nat)) :: ([] : List D)))).bind fun t2 => (N.ok (D.tup t2))).bind fun t5 => ((((szN ((toD ([97] : List Nat)) :: ((toD ([98, 117, 102, 102, 101, 114] : List Nat)) :: ([] : List D)))).bind fun t3 => (N.ok (D.tup t3))).bind fun t4 => (N.ok (t4 :: ([] : List D)))).bind fun t6 => (N.ok (t5 :: t6)))).bind fun t7 => ((szN t7).bind fun t8 => (N.ok (D.tup t8)))).bind fun t29 => ((((((szN ((toD ([97] : List Nat)) :: ((toD ([98, 117, 102, 102, 101, 114] : List Nat)) :: ([] : List D)))).bind fun t9 => (N.ok (D.tup t9))).bind fun t15 => ((((szN ((toD ([110] : List Nat)) :: ((toD ([105, 110, 116] : List Nat)) :: ([] : List D)))).bind fun t10 => (N.ok (D.tup t10))).bind fun t13 => ((((szN ((toD ([98] : List Nat)) :: ((toD ([98, 117, 102, 102, 101, 114] : List Nat)) :: ([] : List D)))).bind fun t11 => (N.ok (D.tup t11))).bind fun t12 => (N.ok (t12 :: ([] : List D)))).bind fun t14 => (N.ok (t13 :: t14)))).bind fun t16 => (N.ok (t15 :: t16)))).bind fun t17 => ((szN t17).bind fun t18 => (N.ok (D.tup t18)))).bind fun t27 => ((((((szN ((toD ([97] : List Nat)) :: ((toD ([98, 117, 102, 102, 101, 114] : List Nat)) :: ([] : List D)))).bind fun t19 => (N.ok (D.tup t19))).bind fun t20 => (N.ok (t20 :: ([] : List D)))).bind fun t21 => ((szN t21).bind fun t22 => (N.ok (D.tup t22)))).bind fun t25 => ((((szN ([] : List D)).bind fun t23 => (N.ok (D.tup t23))).bind fun t24 => (N.ok (t24 :: ([] : List D)))).bind fun t26 => (N.ok (t25 :: t26)))).bind fun t28 => (N.ok (t27 :: t28)))).bind fun t30 => (N.ok (t29 :: t30)))).bind fun t31 => (szN t31)).bind fun t267 => N.ok (t267, stream_)).bind2 fun t268 s269 => (noE (N_law_pick s269 t268))).bind2 fun (params_33 : D) s32 => (((((((szN ([] : List D)).bind fun t36 => (N.ok (D.tup t36))).bind fun t54 => ((((szN ([] : List D)).bind fun t37 => (N.ok (D.tup t37))).bind fun t52 => ((((((szN ((toD ([115] : List Nat)) :: ((toD (3 : Int)) :: ([] : List D)))).bind fun t38 => (N.ok (D.tup t38))).bind fun t39 => (N.ok (t39 :: ([] : List D)))).bind fun t40 => ((szN t40).bind fun t41 => (N.ok (D.tup t41)))).bind fun t50 => ((((((szN ((toD ([115] : List Nat)) :: ((toD (2 : Int)) :: ([] : List D)))).bind fun t42 => (N.ok (D.tup t42))).bind fun t45 => ((((szN ((toD ([114] : List Nat)) :: ((toD (1 : Int)) :: ([] : List D)))).bind fun t43 => (N.ok (D.tup t43))).bind fun t44 => (N.ok (t44 :: ([] : List D)))).bind fun t46 => (N.ok (t45 :: t46)))).bind fun t47 => ((szN t47).bind fun t48 => (N.ok (D.tup t48)))).bind fun t49 => (N.ok (t49 :: ([] : List D)))).bind fun t51 => (N.ok (t50 :: t51)))).bind fun t53 => (N.ok (t52 :: t53)))).bind fun t55 => (N.ok (t54 :: t55)))).bind fun t56 => (szN t56)).bind fun t260 => N.ok (t260, s32)).bind2 fun t261 s262 => (noE (N_law_pick s262 t261))).bind2 fun (shared_58 : D) s57 => ((noE (N_law_draw s57 (4 : Int))).bind2 fun (local_60 : Int) s59 => (((noE (N_law_draw s59 (12 : Int))).bind2 fun t254 s255 => (N.ok (((1 : Int) + t254), s255))).bind2 fun (many_62 : Int) s61 => ((N.ok ([] : List D)).bind fun xs => (szN xs).bind fun (rows_63 : (List D)) => (((range1N many_62).bind fun xs247 => forN xs247 (s61, rows_63) (fun (x70 : Int) (g243 : (Strm × (List D))) => match g243 with | (stream_68, rows_69) => ((noE (N_law_draw stream_68 (8 : Int))).bind2 fun (pick_72 : Int) s71 => ((N.ok (decide (x70 = (many_62 - (1 : Int))))).bind fun k73 => if k73 = true then ((((noE (N_law_draw s71 (5 : Int))).bind2 fun t78 s79 => (N.ok ((decide ((0 : Int) < t78)), s79))).bind2 fun t80 s81 => (if t80 = true then (((szN ((toD ([101, 120, 105, 116] : List Nat)) :: ([] : List D))).bind fun t76 => (N.ok (D.tup t76))).bind fun t82 => N.ok (t82, s81)) else (((((noE (N_law_draw s81 many_62)).bind2 fun t83 s84 => (N.ok ((toD t83), s84))).bind2 fun t85 s86 => (N.ok ((t85 :: ([] : List D)), s86))).bind2 fun t87 s88 => (N.ok (((toD ([106, 117, 109, 112] : List Nat)) :: t87), s88))).bind2 fun t89 s90 => (((szN t89).bind fun t91 => (N.ok (D.tup t91))).bind fun t92 => N.ok (t92, s90))))).bind2 fun t75 s77 => (appN rows_69 t75).bind fun (rows_74 : (List D)) => (N.ok (s77, rows_74))) else ((N.ok (decide (pick_72 = (0 : Int)))).bind fun k109 => if k109 = true then ((((((noE (N_law_draw s71 (4 : Int))).bind2 fun t113 s114 => (N.ok ((toD t113), s114))).bind2 fun t115 s116 => ((((noE (N_law_draw s116 many_62)).bind2 fun t117 s118 => (N.ok ((toD t117), s118))).bind2 fun t119 s120 => ((((noE (N_law_draw s120 (many_62 + (1 : Int)))).bind2 fun t121 s122 => (N.ok ((toD t121), s122))).bind2 fun t123 s124 => (N.ok ((t123 :: ([] : List D)), s124))).bind2 fun t125 s126 => (N.ok ((t119 :: t125), s126)))).bind2 fun t127 s128 => (N.ok ((t115 :: t127), s128)))).bind2 fun t129 s130 => (N.ok (((toD ([98, 114, 97, 110, 99, 104] : List Nat)) :: t129), s130))).bind2 fun t131 s132 => (((szN t131).bind fun t133 => (N.ok (D.tup t133))).bind fun t134 => N.ok (t134, s132))).bind2 fun t111 s112 => (appN rows_69 t111).bind fun (rows_110 : (List D)) => (N.ok (s112, rows_110))) else ((if (decide (pick_72 = (1 : Int))) = true then (N.ok (decide ((0 : Int) < local_60))) else N.ok false).bind fun k158 => if k158 = true then (((((((noE (N_law_draw s71 (8 : Int))).bind2 fun t162 s163 => ((noE (N_law_draw s163 local_60)).bind2 fun t164 s165 => (N.ok ((P3.mk ([103, 101, 116] : List Nat) t162 t164), s165)))).bind2 fun t166 s167 => ((((noE (N_law_draw s167 local_60)).bind2 fun t168 s169 => ((noE (N_law_draw s169 (8 : Int))).bind2 fun t170 s171 => (N.ok ((P3.mk ([107, 101, 101, 112] : List Nat) t168 t170), s171)))).bind2 fun t172 s173 => (N.ok ((t172 :: ([] : List (P3 (List Nat) Int Int))), s173))).bind2 fun t174 s175 => (N.ok ((t166 :: t174), s175)))).bind2 fun t176 s177 => ((szN t176).bind fun t178 => N.ok (t178, s177))).bind2 fun t179 s180 => (noE (N_law_pick s180 t179))).bind2 fun t181 s182 => (N.ok ((toD t181), s182))).bind2 fun t160 s161 => (appN rows_69 t160).bind fun (rows_159 : (List D)) => (N.ok (s161, rows_159))) else ((if (decide (pick_72 = (2 : Int))) = true then ((noE (N_law_draw s71 (3 : Int))).bind2 fun t237 s238 => (N.ok ((decide (t237 = (0 : Int))), s238))) else N.ok (false, s71)).bind2 fun k205 s206 => if k205 = true then (((((((szN ((toD ([101, 120, 105, 116] : List Nat)) :: ([] : List D))).bind fun t209 => (N.ok (D.tup t209))).bind fun t212 => ((((szN ((toD ([106, 117, 109, 112] : List Nat)) :: ((toD (if (many_62 - (1 : Int)) < (x70 + (2 : Int)) then (many_62 - (1 : Int)) else (x70 + (2 : Int)))) :: ([] : List D)))).bind fun t210 => (N.ok (D.tup t210))).bind fun t211 => (N.ok (t211 :: ([] : List D)))).bind fun t213 => (N.ok (t212 :: t213)))).bind fun t214 => (szN t214)).bind fun t216 => N.ok (t216, s206)).bind2 fun t217 s218 => (noE (N_law_pick s218 t217))).bind2 fun t208 s215 => (appN rows_69 t208).bind fun (rows_207 : (List D)) => (N.ok (s215, rows_207))) else (((((szN ((3 : Int) :: ((3 : Int) :: ((8 : Int) :: ([] : List Int))))).bind fun t226 => N.ok (t226, s206)).bind2 fun t227 s228 => (noE (N_law_pick s228 t227))).bind2 fun t229 s230 => (noE (N_law_instruction s230 params_33 shared_58 t229))).bind2 fun t224 s225 => (appN rows_69 t224).bind fun (rows_223 : (List D)) => (N.ok (s225, rows_223)))))))))).bind fun (stream_244, rows_245) => ((((szN (params_33 :: (shared_58 :: ((toD local_60) :: ((toD (Tu.mk rows_245)) :: ([] : List D)))))).bind fun t248 => (N.ok (D.tup t248))).bind fun t251 => N.ok (t251, stream_244)).bind2 fun t249 s250 => N.ok (t249, s250))))))))
theorem d_law_code : S0 rpZ G_law_code N_law_code := fun h v_0 stream_ F  p nd => by
  exact sim_defS (n := 1) (l := 8) (body := M_law_code_b) (us := [v_0]) rfl p nd (bs_set (i := 1) (k := 0) (s := stream_) (ma := (fun s270 => ((((((((szN ((toD ([110] : List Nat)) :: ((toD ([105, 110, 116] : List Nat)) :: ([] : List D)))).bind fun t2 => (N.ok (D.tup t2))).bind fun t5 => ((((szN ((toD ([97] : List Nat)) :: ((toD ([98, 117, 102, 102, 101, 114] : List Nat)) :: ([] : List D)))).bind fun t3 => (N.ok (D.tup t3))).bind fun t4 => (N.ok (t4 :: ([] : List D)))).bind fun t6 => (N.ok (t5 :: t6)))).bind fun t7 => ((szN t7).bind fun t8 => (N.ok (D.tup t8)))).bind fun t29 => ((((((szN ((toD ([97] : List Nat)) :: ((toD ([98, 117, 102, 102, 101, 114] : List Nat)) :: ([] : List D)))).bind fun t9 => (N.ok (D.tup t9))).bind fun t15 => ((((szN ((toD ([110] : List Nat)) :: ((toD ([105, 110, 116] : List Nat)) :: ([] : List D)))).bind fun t10 => (N.ok (D.tup t10))).bind fun t13 => ((((szN ((toD ([98] : List Nat)) :: ((toD ([98, 117, 102, 102, 101, 114] : List Nat)) :: ([] : List D)))).bind fun t11 => (N.ok (D.tup t11))).bind fun t12 => (N.ok (t12 :: ([] : List D)))).bind fun t14 => (N.ok (t13 :: t14)))).bind fun t16 => (N.ok (t15 :: t16)))).bind fun t17 => ((szN t17).bind fun t18 => (N.ok (D.tup t18)))).bind fun t27 => ((((((szN ((toD ([97] : List Nat)) :: ((toD ([98, 117, 102, 102, 101, 114] : List Nat)) :: ([] : List D)))).bind fun t19 => (N.ok (D.tup t19))).bind fun t20 => (N.ok (t20 :: ([] : List D)))).bind fun t21 => ((szN t21).bind fun t22 => (N.ok (D.tup t22)))).bind fun t25 => ((((szN ([] : List D)).bind fun t23 => (N.ok (D.tup t23))).bind fun t24 => (N.ok (t24 :: ([] : List D)))).bind fun t26 => (N.ok (t25 :: t26)))).bind fun t28 => (N.ok (t27 :: t28)))).bind fun t30 => (N.ok (t29 :: t30)))).bind fun t31 => (szN t31)).bind fun t271 => N.ok (t271, s270)).bind2 fun t272 s273 => (noE (N_law_pick s273 t272))))) rfl (es_eq (es_s1 (i := 0) d_law_pick rfl rfl (es_pure fun _ => (ej_lst (ls_cons (ej_tupD (ls_cons (ej_tupD (ls_cons (ej_toD (ej_c (a := ([110] : List Nat)) rfl)) (ls_cons (ej_toD (ej_c (a := ([105, 110, 116] : List Nat)) rfl)) ls_nil))) (ls_cons (ej_tupD (ls_cons (ej_toD (ej_c (a := ([97] : List Nat)) rfl)) (ls_cons (ej_toD (ej_c (a := ([98, 117, 102, 102, 101, 114] : List Nat)) rfl)) ls_nil))) ls_nil))) (ls_cons (ej_tupD (ls_cons (ej_tupD (ls_cons (ej_toD (ej_c (a := ([97] : List Nat)) rfl)) (ls_cons (ej_toD (ej_c (a := ([98, 117, 102, 102, 101, 114] : List Nat)) rfl)) ls_nil))) (ls_cons (ej_tupD (ls_cons (ej_toD (ej_c (a := ([110] : List Nat)) rfl)) (ls_cons (ej_toD (ej_c (a := ([105, 110, 116] : List Nat)) rfl)) ls_nil))) (ls_cons (ej_tupD (ls_cons (ej_toD (ej_c (a := ([98] : List Nat)) rfl)) (ls_cons (ej_toD (ej_c (a := ([98, 117, 102, 102, 101, 114] : List Nat)) rfl)) ls_nil))) ls_nil)))) (ls_cons (ej_tupD (ls_cons (ej_tupD (ls_cons (ej_toD (ej_c (a := ([97] : List Nat)) rfl)) (ls_cons (ej_toD (ej_c (a := ([98, 117, 102, 102, 101, 114] : List Nat)) rfl)) ls_nil))) ls_nil)) (ls_cons (ej_tupD ls_nil) ls_nil)))))))) (fun params_33 s32 => (bs_set (i := 2) (k := 0) (s := s32) (ma := (fun s263 => ((((((szN ([] : List D)).bind fun t36 => (N.ok (D.tup t36))).bind fun t54 => ((((szN ([] : List D)).bind fun t37 => (N.ok (D.tup t37))).bind fun t52 => ((((((szN ((toD ([115] : List Nat)) :: ((toD (3 : Int)) :: ([] : List D)))).bind fun t38 => (N.ok (D.tup t38))).bind fun t39 => (N.ok (t39 :: ([] : List D)))).bind fun t40 => ((szN t40).bind fun t41 => (N.ok (D.tup t41)))).bind fun t50 => ((((((szN ((toD ([115] : List Nat)) :: ((toD (2 : Int)) :: ([] : List D)))).bind fun t42 => (N.ok (D.tup t42))).bind fun t45 => ((((szN ((toD ([114] : List Nat)) :: ((toD (1 : Int)) :: ([] : List D)))).bind fun t43 => (N.ok (D.tup t43))).bind fun t44 => (N.ok (t44 :: ([] : List D)))).bind fun t46 => (N.ok (t45 :: t46)))).bind fun t47 => ((szN t47).bind fun t48 => (N.ok (D.tup t48)))).bind fun t49 => (N.ok (t49 :: ([] : List D)))).bind fun t51 => (N.ok (t50 :: t51)))).bind fun t53 => (N.ok (t52 :: t53)))).bind fun t55 => (N.ok (t54 :: t55)))).bind fun t56 => (szN t56)).bind fun t264 => N.ok (t264, s263)).bind2 fun t265 s266 => (noE (N_law_pick s266 t265))))) rfl (es_eq (es_s1 (i := 0) d_law_pick rfl rfl (es_pure fun _ => (ej_lst (ls_cons (ej_tupD ls_nil) (ls_cons (ej_tupD ls_nil) (ls_cons (ej_tupD (ls_cons (ej_tupD (ls_cons (ej_toD (ej_c (a := ([115] : List Nat)) rfl)) (ls_cons (ej_toD (ej_c (a := (3 : Int)) rfl)) ls_nil))) ls_nil)) (ls_cons (ej_tupD (ls_cons (ej_tupD (ls_cons (ej_toD (ej_c (a := ([115] : List Nat)) rfl)) (ls_cons (ej_toD (ej_c (a := (2 : Int)) rfl)) ls_nil))) (ls_cons (ej_tupD (ls_cons (ej_toD (ej_c (a := ([114] : List Nat)) rfl)) (ls_cons (ej_toD (ej_c (a := (1 : Int)) rfl)) ls_nil))) ls_nil))) ls_nil)))))))) (fun shared_58 s57 => (bs_set (i := 3) (k := 0) (s := s57) (ma := (fun s259 => (noE (N_law_draw s259 (4 : Int))))) rfl (es_eq (es_s1 (i := 0) d_law_draw rfl rfl (es_pure fun _ => (ej_c (a := (4 : Int)) rfl)))) (fun local_60 s59 => (bs_set (i := 4) (k := 0) (s := s59) (ma := (fun s256 => ((noE (N_law_draw s256 (12 : Int))).bind2 fun t257 s258 => (N.ok (((1 : Int) + t257), s258))))) rfl (es_eq (es_bin (e2 o_addI) (es_pure fun _ => (ej_c (a := (1 : Int)) rfl)) (fun _ => (es_s1 (i := 0) d_law_draw rfl rfl (es_pure fun _ => (ej_c (a := (12 : Int)) rfl)))))) (fun many_62 s61 => (bj_new (i := 5) (ls_eq ls_nil ) (fun v64 rows_63 => (bj_part (sp := (fun (g65 : (Strm × (List D))) s os => ∃ (z66 z67 : Option Val), s = [some v_0, some (enc (params_33 : D)), some (enc (shared_58 : D)), some (enc (local_60 : Int)), some (enc (many_62 : Int)), some v64, z66, z67] ∧ os = [OI.of rpZ v_0 (g65.1), OI.of (rpL (rpF D)) v64 (g65.2)])) (bj_for (nb := (fun (x70 : Int) (g243 : (Strm × (List D))) => match g243 with | (stream_68, rows_69) => ((noE (N_law_draw stream_68 (8 : Int))).bind2 fun (pick_72 : Int) s71 => ((N.ok (decide (x70 = (many_62 - (1 : Int))))).bind fun k73 => if k73 = true then ((((noE (N_law_draw s71 (5 : Int))).bind2 fun t78 s79 => (N.ok ((decide ((0 : Int) < t78)), s79))).bind2 fun t80 s81 => (if t80 = true then (((szN ((toD ([101, 120, 105, 116] : List Nat)) :: ([] : List D))).bind fun t76 => (N.ok (D.tup t76))).bind fun t82 => N.ok (t82, s81)) else (((((noE (N_law_draw s81 many_62)).bind2 fun t83 s84 => (N.ok ((toD t83), s84))).bind2 fun t85 s86 => (N.ok ((t85 :: ([] : List D)), s86))).bind2 fun t87 s88 => (N.ok (((toD ([106, 117, 109, 112] : List Nat)) :: t87), s88))).bind2 fun t89 s90 => (((szN t89).bind fun t91 => (N.ok (D.tup t91))).bind fun t92 => N.ok (t92, s90))))).bind2 fun t75 s77 => (appN rows_69 t75).bind fun (rows_74 : (List D)) => (N.ok (s77, rows_74))) else ((N.ok (decide (pick_72 = (0 : Int)))).bind fun k109 => if k109 = true then ((((((noE (N_law_draw s71 (4 : Int))).bind2 fun t113 s114 => (N.ok ((toD t113), s114))).bind2 fun t115 s116 => ((((noE (N_law_draw s116 many_62)).bind2 fun t117 s118 => (N.ok ((toD t117), s118))).bind2 fun t119 s120 => ((((noE (N_law_draw s120 (many_62 + (1 : Int)))).bind2 fun t121 s122 => (N.ok ((toD t121), s122))).bind2 fun t123 s124 => (N.ok ((t123 :: ([] : List D)), s124))).bind2 fun t125 s126 => (N.ok ((t119 :: t125), s126)))).bind2 fun t127 s128 => (N.ok ((t115 :: t127), s128)))).bind2 fun t129 s130 => (N.ok (((toD ([98, 114, 97, 110, 99, 104] : List Nat)) :: t129), s130))).bind2 fun t131 s132 => (((szN t131).bind fun t133 => (N.ok (D.tup t133))).bind fun t134 => N.ok (t134, s132))).bind2 fun t111 s112 => (appN rows_69 t111).bind fun (rows_110 : (List D)) => (N.ok (s112, rows_110))) else ((if (decide (pick_72 = (1 : Int))) = true then (N.ok (decide ((0 : Int) < local_60))) else N.ok false).bind fun k158 => if k158 = true then (((((((noE (N_law_draw s71 (8 : Int))).bind2 fun t162 s163 => ((noE (N_law_draw s163 local_60)).bind2 fun t164 s165 => (N.ok ((P3.mk ([103, 101, 116] : List Nat) t162 t164), s165)))).bind2 fun t166 s167 => ((((noE (N_law_draw s167 local_60)).bind2 fun t168 s169 => ((noE (N_law_draw s169 (8 : Int))).bind2 fun t170 s171 => (N.ok ((P3.mk ([107, 101, 101, 112] : List Nat) t168 t170), s171)))).bind2 fun t172 s173 => (N.ok ((t172 :: ([] : List (P3 (List Nat) Int Int))), s173))).bind2 fun t174 s175 => (N.ok ((t166 :: t174), s175)))).bind2 fun t176 s177 => ((szN t176).bind fun t178 => N.ok (t178, s177))).bind2 fun t179 s180 => (noE (N_law_pick s180 t179))).bind2 fun t181 s182 => (N.ok ((toD t181), s182))).bind2 fun t160 s161 => (appN rows_69 t160).bind fun (rows_159 : (List D)) => (N.ok (s161, rows_159))) else ((if (decide (pick_72 = (2 : Int))) = true then ((noE (N_law_draw s71 (3 : Int))).bind2 fun t237 s238 => (N.ok ((decide (t237 = (0 : Int))), s238))) else N.ok (false, s71)).bind2 fun k205 s206 => if k205 = true then (((((((szN ((toD ([101, 120, 105, 116] : List Nat)) :: ([] : List D))).bind fun t209 => (N.ok (D.tup t209))).bind fun t212 => ((((szN ((toD ([106, 117, 109, 112] : List Nat)) :: ((toD (if (many_62 - (1 : Int)) < (x70 + (2 : Int)) then (many_62 - (1 : Int)) else (x70 + (2 : Int)))) :: ([] : List D)))).bind fun t210 => (N.ok (D.tup t210))).bind fun t211 => (N.ok (t211 :: ([] : List D)))).bind fun t213 => (N.ok (t212 :: t213)))).bind fun t214 => (szN t214)).bind fun t216 => N.ok (t216, s206)).bind2 fun t217 s218 => (noE (N_law_pick s218 t217))).bind2 fun t208 s215 => (appN rows_69 t208).bind fun (rows_207 : (List D)) => (N.ok (s215, rows_207))) else (((((szN ((3 : Int) :: ((3 : Int) :: ((8 : Int) :: ([] : List Int))))).bind fun t226 => N.ok (t226, s206)).bind2 fun t227 s228 => (noE (N_law_pick s228 t227))).bind2 fun t229 s230 => (noE (N_law_instruction s230 params_33 shared_58 t229))).bind2 fun t224 s225 => (appN rows_69 t224).bind fun (rows_223 : (List D)) => (N.ok (s225, rows_223)))))))))) (g0 := (s61, rows_63)) (ij_eq (ij_range1 (ej_v (i := 4) (a := many_62) rfl))) tgt_nm ⟨_, _, rfl, rfl⟩ (fun x70 g243 s os hs => by obtain ⟨stream_68, rows_69⟩ := g243; obtain ⟨z66, z67, rfl, rfl⟩ := hs; exact (bs_set (i := 7) (k := 0) (s := stream_68) (ma := (fun s242 => (noE (N_law_draw s242 (8 : Int))))) rfl (es_eq (es_s1 (i := 0) d_law_draw rfl rfl (es_pure fun _ => (ej_c (a := (8 : Int)) rfl)))) (fun pick_72 s71 => (bj_ite (ts_eq (ts_e (ej_bin o_eqI (rj_e (ej_v (i := 6) (a := x70) rfl)) (rj_e (ej_bin o_subI (rj_e (ej_v (i := 4) (a := many_62) rfl)) (rj_e (ej_c (a := (1 : Int)) rfl))))))) (bj_one (bs_app (i := 5) (k := 0) (j := 1) (w := v64) (xs := rows_69) (s := s71) (ma := (fun s93 => (((noE (N_law_draw s93 (5 : Int))).bind2 fun t94 s95 => (N.ok ((decide ((0 : Int) < t94)), s95))).bind2 fun t96 s97 => (if t96 = true then (((szN ((toD ([101, 120, 105, 116] : List Nat)) :: ([] : List D))).bind fun t76 => (N.ok (D.tup t76))).bind fun t98 => N.ok (t98, s97)) else (((((noE (N_law_draw s97 many_62)).bind2 fun t99 s100 => (N.ok ((toD t99), s100))).bind2 fun t101 s102 => (N.ok ((t101 :: ([] : List D)), s102))).bind2 fun t103 s104 => (N.ok (((toD ([106, 117, 109, 112] : List Nat)) :: t103), s104))).bind2 fun t105 s106 => (((szN t105).bind fun t107 => (N.ok (D.tup t107))).bind fun t108 => N.ok (t108, s106))))))) rfl rfl rfl (by decide) (es_eq (es_if (tS_e (es_bin (e2 o_gtI) (es_s1 (i := 0) d_law_draw rfl rfl (es_pure fun _ => (ej_c (a := (5 : Int)) rfl))) (fun _ => (es_pure fun _ => (ej_c (a := (0 : Int)) rfl))))) (es_pure fun _ => (ej_tupD (ls_cons (ej_toD (ej_c (a := ([101, 120, 105, 116] : List Nat)) rfl)) ls_nil))) (es_tupD (lS_cons (es_pure fun _ => (ej_toD (ej_c (a := ([106, 117, 109, 112] : List Nat)) rfl))) (lS_cons (es_toD (es_s1 (i := 0) d_law_draw rfl rfl (es_pure fun _ => (ej_v (i := 4) (a := many_62) rfl)))) lS_nil))))) (fun rows_74 s77 => (bj_part_endC 2 ⟨_, _, rfl, rfl⟩)))) (bj_ite (ts_eq (ts_e (ej_bin o_eqI (rj_e (ej_v (i := 7) (a := pick_72) rfl)) (rj_e (ej_c (a := (0 : Int)) rfl))))) (bj_one (bs_app (i := 5) (k := 0) (j := 1) (w := v64) (xs := rows_69) (s := s71) (ma := (fun s135 => (((((noE (N_law_draw s135 (4 : Int))).bind2 fun t136 s137 => (N.ok ((toD t136), s137))).bind2 fun t138 s139 => ((((noE (N_law_draw s139 many_62)).bind2 fun t140 s141 => (N.ok ((toD t140), s141))).bind2 fun t142 s143 => ((((noE (N_law_draw s143 (many_62 + (1 : Int)))).bind2 fun t144 s145 => (N.ok ((toD t144), s145))).bind2 fun t146 s147 => (N.ok ((t146 :: ([] : List D)), s147))).bind2 fun t148 s149 => (N.ok ((t142 :: t148), s149)))).bind2 fun t150 s151 => (N.ok ((t138 :: t150), s151)))).bind2 fun t152 s153 => (N.ok (((toD ([98, 114, 97, 110, 99, 104] : List Nat)) :: t152), s153))).bind2 fun t154 s155 => (((szN t154).bind fun t156 => (N.ok (D.tup t156))).bind fun t157 => N.ok (t157, s155))))) rfl rfl rfl (by decide) (es_eq (es_tupD (lS_cons (es_pure fun _ => (ej_toD (ej_c (a := ([98, 114, 97, 110, 99, 104] : List Nat)) rfl))) (lS_cons (es_toD (es_s1 (i := 0) d_law_draw rfl rfl (es_pure fun _ => (ej_c (a := (4 : Int)) rfl)))) (lS_cons (es_toD (es_s1 (i := 0) d_law_draw rfl rfl (es_pure fun _ => (ej_v (i := 4) (a := many_62) rfl)))) (lS_cons (es_toD (es_s1 (i := 0) d_law_draw rfl rfl (es_pure fun _ => (ej_bin o_addI (rj_e (ej_v (i := 4) (a := many_62) rfl)) (rj_e (ej_c (a := (1 : Int)) rfl)))))) lS_nil)))))) (fun rows_110 s112 => (bj_part_endC 2 ⟨_, _, rfl, rfl⟩)))) (bj_ite (ts_eq (ts_and (ts_e (ej_bin o_eqI (rj_e (ej_v (i := 7) (a := pick_72) rfl)) (rj_e (ej_c (a := (1 : Int)) rfl)))) (ts_e (ej_bin o_gtI (rj_e (ej_v (i := 3) (a := local_60) rfl)) (rj_e (ej_c (a := (0 : Int)) rfl)))))) (bj_one (bs_app (i := 5) (k := 0) (j := 1) (w := v64) (xs := rows_69) (s := s71) (ma := (fun s183 => ((((((noE (N_law_draw s183 (8 : Int))).bind2 fun t184 s185 => ((noE (N_law_draw s185 local_60)).bind2 fun t186 s187 => (N.ok ((P3.mk ([103, 101, 116] : List Nat) t184 t186), s187)))).bind2 fun t188 s189 => ((((noE (N_law_draw s189 local_60)).bind2 fun t190 s191 => ((noE (N_law_draw s191 (8 : Int))).bind2 fun t192 s193 => (N.ok ((P3.mk ([107, 101, 101, 112] : List Nat) t190 t192), s193)))).bind2 fun t194 s195 => (N.ok ((t194 :: ([] : List (P3 (List Nat) Int Int))), s195))).bind2 fun t196 s197 => (N.ok ((t188 :: t196), s197)))).bind2 fun t198 s199 => ((szN t198).bind fun t200 => N.ok (t200, s199))).bind2 fun t201 s202 => (noE (N_law_pick s202 t201))).bind2 fun t203 s204 => (N.ok ((toD t203), s204))))) rfl rfl rfl (by decide) (es_eq (es_toD (es_s1 (i := 0) d_law_pick rfl rfl (es_lst (lS_cons (es_p3 (es_pure fun _ => (ej_c (a := ([103, 101, 116] : List Nat)) rfl)) (es_s1 (i := 0) d_law_draw rfl rfl (es_pure fun _ => (ej_c (a := (8 : Int)) rfl))) (es_s1 (i := 0) d_law_draw rfl rfl (es_pure fun _ => (ej_v (i := 3) (a := local_60) rfl)))) (lS_cons (es_p3 (es_pure fun _ => (ej_c (a := ([107, 101, 101, 112] : List Nat)) rfl)) (es_s1 (i := 0) d_law_draw rfl rfl (es_pure fun _ => (ej_v (i := 3) (a := local_60) rfl))) (es_s1 (i := 0) d_law_draw rfl rfl (es_pure fun _ => (ej_c (a := (8 : Int)) rfl)))) lS_nil)))))) (fun rows_159 s161 => (bj_part_endC 2 ⟨_, _, rfl, rfl⟩)))) (bs_ite (k := 0) (mt := (fun s239 => (if (decide (pick_72 = (2 : Int))) = true then ((noE (N_law_draw s239 (3 : Int))).bind2 fun t240 s241 => (N.ok ((decide (t240 = (0 : Int))), s241))) else N.ok (false, s239)))) (s := s71) rfl (tS_eq (tS_and (tS_pure fun _ => (ts_e (ej_bin o_eqI (rj_e (ej_v (i := 7) (a := pick_72) rfl)) (rj_e (ej_c (a := (2 : Int)) rfl))))) (tS_e (es_bin (e2 o_eqI) (es_s1 (i := 0) d_law_draw rfl rfl (es_pure fun _ => (ej_c (a := (3 : Int)) rfl))) (fun _ => (es_pure fun _ => (ej_c (a := (0 : Int)) rfl))))))) (fun s206 => (bj_one (bs_app (i := 5) (k := 0) (j := 1) (w := v64) (xs := rows_69) (s := s206) (ma := (fun s219 => ((((((szN ((toD ([101, 120, 105, 116] : List Nat)) :: ([] : List D))).bind fun t209 => (N.ok (D.tup t209))).bind fun t212 => ((((szN ((toD ([106, 117, 109, 112] : List Nat)) :: ((toD (if (many_62 - (1 : Int)) < (x70 + (2 : Int)) then (many_62 - (1 : Int)) else (x70 + (2 : Int)))) :: ([] : List D)))).bind fun t210 => (N.ok (D.tup t210))).bind fun t211 => (N.ok (t211 :: ([] : List D)))).bind fun t213 => (N.ok (t212 :: t213)))).bind fun t214 => (szN t214)).bind fun t220 => N.ok (t220, s219)).bind2 fun t221 s222 => (noE (N_law_pick s222 t221))))) rfl rfl rfl (by decide) (es_eq (es_s1 (i := 0) d_law_pick rfl rfl (es_pure fun _ => (ej_lst (ls_cons (ej_tupD (ls_cons (ej_toD (ej_c (a := ([101, 120, 105, 116] : List Nat)) rfl)) ls_nil)) (ls_cons (ej_tupD (ls_cons (ej_toD (ej_c (a := ([106, 117, 109, 112] : List Nat)) rfl)) (ls_cons (ej_toD (ej_b2 o_minI (rj_e (ej_bin o_addI (rj_e (ej_v (i := 6) (a := x70) rfl)) (rj_e (ej_c (a := (2 : Int)) rfl)))) (rj_e (ej_bin o_subI (rj_e (ej_v (i := 4) (a := many_62) rfl)) (rj_e (ej_c (a := (1 : Int)) rfl)))))) ls_nil))) ls_nil)))))) (fun rows_207 s215 => (bj_part_endC 2 ⟨_, _, rfl, rfl⟩))))) (fun s206 => (bj_one (bs_app (i := 5) (k := 0) (j := 1) (w := v64) (xs := rows_69) (s := s206) (ma := (fun s231 => ((((szN ((3 : Int) :: ((3 : Int) :: ((8 : Int) :: ([] : List Int))))).bind fun t232 => N.ok (t232, s231)).bind2 fun t233 s234 => (noE (N_law_pick s234 t233))).bind2 fun t235 s236 => (noE (N_law_instruction s236 params_33 shared_58 t235))))) rfl rfl rfl (by decide) (es_eq (es_s3 (i := 0) d_law_instruction rfl rfl (es_pure fun _ => (ej_v (i := 1) (a := params_33) rfl)) (es_pure fun _ => (ej_v (i := 2) (a := shared_58) rfl)) (es_s1 (i := 0) d_law_pick rfl rfl (es_pure fun _ => (ej_lst (ls_cons (ej_c (a := (3 : Int)) rfl) (ls_cons (ej_c (a := (3 : Int)) rfl) (ls_cons (ej_c (a := (8 : Int)) rfl) ls_nil)))))))) (fun rows_223 s225 => (bj_part_endC 2 ⟨_, _, rfl, rfl⟩))))))))))))) (fun g246 s os hs => by obtain ⟨stream_244, rows_245⟩ := g246; obtain ⟨z66, z67, rfl, rfl⟩ := hs; exact (bs_ret (ma := (fun s252 => (((szN (params_33 :: (shared_58 :: ((toD local_60) :: ((toD (Tu.mk rows_245)) :: ([] : List D)))))).bind fun t248 => (N.ok (D.tup t248))).bind fun t253 => N.ok (t253, s252)))) rfl (es_eq (es_pure fun _ => (ej_tupD (ls_cons (ej_v (i := 1) (a := params_33) rfl) (ls_cons (ej_v (i := 2) (a := shared_58) rfl) (ls_cons (ej_toD (ej_v (i := 3) (a := local_60) rfl)) (ls_cons (ej_toD (ej_b1 b_tupL (rj_own (i := 5) (k := 1) (v := v64) (xs := rows_245) rfl rfl))) ls_nil))))))))))))))))))))
/-! ### _law_launch -/
def N_law_launch (stream_ : Strm) (kernel_ : D) : N ((P4 Int Int (Tu Int) (Tu (Tu Int))) × Strm) :=
  ((((((noE (N_law_draw stream_ (3 : Int))).bind2 fun t68 s69 => (N.ok (((1 : Int) + t68), s69))).bind2 fun t70 s71 => ((range1N t70).bind fun t72 => N.ok (t72, s71))).bind2 fun t73 s74 => (noE (lcS (fun (x1 : Int) => (N.ok true)) (fun (x1 : Int) (s4 : Strm) => ((((noE (N_law_draw s4 (6 : Int))).bind2 fun t5 s6 => ((range1N t5).bind fun t7 => N.ok (t7, s6))).bind2 fun t8 s9 => (noE (lcS (fun (x2 : Int) => (N.ok true)) (fun (x2 : Int) (s3 : Strm) => (noE (N_law_word s3))) 0 t8 s9))).bind2 fun t10 s11 => (N.ok ((Tu.mk t10), s11)))) 0 t73 s74))).bind2 fun t75 s76 => (N.ok ((Tu.mk t75), s76))).bind2 fun (buffers_13 : (Tu (Tu Int))) s12 => (((((((D.ix kernel_ (0 : Int)).bind fun t14 => (D.its t14)).bind fun t15 => (castN D.as2 t15)).bind fun t57 => N.ok (t57, s12)).bind2 fun t58 s59 => (noE (lcS (fun (x16 : (P2 D D)) => (N.ok true)) (fun (x16 : (P2 D D)) (s17 : Strm) => (((eqD x16.b (toD ([105, 110, 116] : List Nat))).bind fun t18 => N.ok (t18, s17)).bind2 fun t19 s20 => (if t19 = true then ((((((((noE (N_law_word s20)).bind2 fun t21 s22 => (N.ok ((t21 :: ([] : List Int)), s22))).bind2 fun t23 s24 => (N.ok (((3 : Int) :: t23), s24))).bind2 fun t25 s26 => (N.ok (((2 : Int) :: t25), s26))).bind2 fun t27 s28 => (N.ok (((1 : Int) :: t27), s28))).bind2 fun t29 s30 => (N.ok (((0 : Int) :: t29), s30))).bind2 fun t31 s32 => ((szN t31).bind fun t33 => N.ok (t33, s32))).bind2 fun t34 s35 => (noE (N_law_pick s35 t34))) else (noE (N_law_draw s20 ((List.length (Tu.l buffers_13) : Nat) : Int)))))) 0 t58 s59))).bind2 fun t60 s61 => (N.ok ((Tu.mk t60), s61))).bind2 fun (arguments_37 : (Tu Int)) s36 => ((((noE (N_law_draw s36 (2 : Int))).bind2 fun t40 s41 => (N.ok (((1 : Int) + t40), s41))).bind2 fun t42 s43 => (((noE (N_law_draw s43 (3 : Int))).bind2 fun t44 s45 => (N.ok (((1 : Int) + t44), s45))).bind2 fun t46 s47 => (N.ok ((P4.mk t42 t46 arguments_37 buffers_13), s47)))).bind2 fun t38 s39 => N.ok (t38, s39))))
theorem d_law_launch : S1 rpZ G_law_launch N_law_launch := fun h v_0 stream_ F kernel_ p nd => by
  exact sim_defS (n := 2) (l := 8) (body := M_law_launch_b) (us := [v_0, enc kernel_]) rfl p nd (bs_set (i := 2) (k := 0) (s := stream_) (ma := (fun s77 => (((((noE (N_law_draw s77 (3 : Int))).bind2 fun t78 s79 => (N.ok (((1 : Int) + t78), s79))).bind2 fun t80 s81 => ((range1N t80).bind fun t82 => N.ok (t82, s81))).bind2 fun t83 s84 => (noE (lcS (fun (x1 : Int) => (N.ok true)) (fun (x1 : Int) (s4 : Strm) => ((((noE (N_law_draw s4 (6 : Int))).bind2 fun t5 s6 => ((range1N t5).bind fun t7 => N.ok (t7, s6))).bind2 fun t8 s9 => (noE (lcS (fun (x2 : Int) => (N.ok true)) (fun (x2 : Int) (s3 : Strm) => (noE (N_law_word s3))) 0 t8 s9))).bind2 fun t10 s11 => (N.ok ((Tu.mk t10), s11)))) 0 t83 s84))).bind2 fun t85 s86 => (N.ok ((Tu.mk t85), s86))))) rfl (es_eq (es_b1 (e1 b_tupL) (es_lc (t := (fun (x1 : Int) => (N.ok true))) (ff := (fun (x1 : Int) (s4 : Strm) => ((((noE (N_law_draw s4 (6 : Int))).bind2 fun t5 s6 => ((range1N t5).bind fun t7 => N.ok (t7, s6))).bind2 fun t8 s9 => (noE (lcS (fun (x2 : Int) => (N.ok true)) (fun (x2 : Int) (s3 : Strm) => (noE (N_law_word s3))) 0 t8 s9))).bind2 fun t10 s11 => (N.ok ((Tu.mk t10), s11))))) (is_range1 (es_bin (e2 o_addI) (es_pure fun _ => (ej_c (a := (1 : Int)) rfl)) (fun _ => (es_s1 (i := 0) d_law_draw rfl rfl (es_pure fun _ => (ej_c (a := (3 : Int)) rfl)))))) tgt_nm (fun x1 _ => ts_true) (fun x1 => es_eq (es_b1 (e1 b_tupL) (es_lc (t := (fun (x2 : Int) => (N.ok true))) (ff := (fun (x2 : Int) (s3 : Strm) => (noE (N_law_word s3)))) (is_range1 (es_s1 (i := 0) d_law_draw rfl rfl (es_pure fun _ => (ej_c (a := (6 : Int)) rfl)))) tgt_nm (fun x2 _ => ts_true) (fun x2 => es_eq (es_s0 (i := 0) d_law_word rfl rfl )))))))) (fun buffers_13 s12 => (bs_set (i := 3) (k := 0) (s := s12) (ma := (fun s62 => ((((((D.ix kernel_ (0 : Int)).bind fun t14 => (D.its t14)).bind fun t15 => (castN D.as2 t15)).bind fun t63 => N.ok (t63, s62)).bind2 fun t64 s65 => (noE (lcS (fun (x16 : (P2 D D)) => (N.ok true)) (fun (x16 : (P2 D D)) (s17 : Strm) => (((eqD x16.b (toD ([105, 110, 116] : List Nat))).bind fun t18 => N.ok (t18, s17)).bind2 fun t19 s20 => (if t19 = true then ((((((((noE (N_law_word s20)).bind2 fun t21 s22 => (N.ok ((t21 :: ([] : List Int)), s22))).bind2 fun t23 s24 => (N.ok (((3 : Int) :: t23), s24))).bind2 fun t25 s26 => (N.ok (((2 : Int) :: t25), s26))).bind2 fun t27 s28 => (N.ok (((1 : Int) :: t27), s28))).bind2 fun t29 s30 => (N.ok (((0 : Int) :: t29), s30))).bind2 fun t31 s32 => ((szN t31).bind fun t33 => N.ok (t33, s32))).bind2 fun t34 s35 => (noE (N_law_pick s35 t34))) else (noE (N_law_draw s20 ((List.length (Tu.l buffers_13) : Nat) : Int)))))) 0 t64 s65))).bind2 fun t66 s67 => (N.ok ((Tu.mk t66), s67))))) rfl (es_eq (es_b1 (e1 b_tupL) (es_lc (t := (fun (x16 : (P2 D D)) => (N.ok true))) (ff := (fun (x16 : (P2 D D)) (s17 : Strm) => (((eqD x16.b (toD ([105, 110, 116] : List Nat))).bind fun t18 => N.ok (t18, s17)).bind2 fun t19 s20 => (if t19 = true then ((((((((noE (N_law_word s20)).bind2 fun t21 s22 => (N.ok ((t21 :: ([] : List Int)), s22))).bind2 fun t23 s24 => (N.ok (((3 : Int) :: t23), s24))).bind2 fun t25 s26 => (N.ok (((2 : Int) :: t25), s26))).bind2 fun t27 s28 => (N.ok (((1 : Int) :: t27), s28))).bind2 fun t29 s30 => (N.ok (((0 : Int) :: t29), s30))).bind2 fun t31 s32 => ((szN t31).bind fun t33 => N.ok (t33, s32))).bind2 fun t34 s35 => (noE (N_law_pick s35 t34))) else (noE (N_law_draw s20 ((List.length (Tu.l buffers_13) : Nat) : Int))))))) (is_pure fun _ => (ij_cast as2_e as2_x (ij_D (ej_bin o_ixD (rj_e (ej_v (i := 1) (a := kernel_) rfl)) (rj_e (ej_c (a := (0 : Int)) rfl)))))) tgt_p2 (fun x16 _ => ts_true) (fun x16 => es_eq (es_if (tS_pure fun _ => (ts_e (ej_bin o_eqD (rj_e (ej_v (i := 6) (a := x16.b) rfl)) (rj_e (ej_toD (ej_c (a := ([105, 110, 116] : List Nat)) rfl)))))) (es_s1 (i := 0) d_law_pick rfl rfl (es_lst (lS_cons (es_pure fun _ => (ej_c (a := (0 : Int)) rfl)) (lS_cons (es_pure fun _ => (ej_c (a := (1 : Int)) rfl)) (lS_cons (es_pure fun _ => (ej_c (a := (2 : Int)) rfl)) (lS_cons (es_pure fun _ => (ej_c (a := (3 : Int)) rfl)) (lS_cons (es_s0 (i := 0) d_law_word rfl rfl ) lS_nil))))))) (es_s1 (i := 0) d_law_draw rfl rfl (es_pure fun _ => (ej_b1 b_lenT (rj_e (ej_v (i := 2) (a := buffers_13) rfl)))))))))) (fun arguments_37 s36 => (bs_ret (ma := (fun s48 => (((noE (N_law_draw s48 (2 : Int))).bind2 fun t49 s50 => (N.ok (((1 : Int) + t49), s50))).bind2 fun t51 s52 => (((noE (N_law_draw s52 (3 : Int))).bind2 fun t53 s54 => (N.ok (((1 : Int) + t53), s54))).bind2 fun t55 s56 => (N.ok ((P4.mk t51 t55 arguments_37 buffers_13), s56)))))) rfl (es_eq (es_p4 (es_bin (e2 o_addI) (es_pure fun _ => (ej_c (a := (1 : Int)) rfl)) (fun _ => (es_s1 (i := 0) d_law_draw rfl rfl (es_pure fun _ => (ej_c (a := (2 : Int)) rfl))))) (es_bin (e2 o_addI) (es_pure fun _ => (ej_c (a := (1 : Int)) rfl)) (fun _ => (es_s1 (i := 0) d_law_draw rfl rfl (es_pure fun _ => (ej_c (a := (3 : Int)) rfl))))) (es_pure fun _ => (ej_v (i := 3) (a := arguments_37) rfl)) (es_pure fun _ => (ej_v (i := 2) (a := buffers_13) rfl)))))))))
/-! ### first_lane -/
def N_first_lane (code_ : D) : N D :=
  ((((((((szN ((0 : Int) :: ([] : List Int))).bind fun t1 => (N.ok (Tu.mk t1))).bind fun t2 => (mulT t2 (8 : Int))).bind fun t3 => (N.ok (toD t3))).bind fun t10 => ((((((szN ((0 : Int) :: ([] : List Int))).bind fun t4 => (N.ok (Tu.mk t4))).bind fun t6 => (((D.ix code_ (2 : Int)).bind fun t5 => (D.asI t5)).bind fun t7 => (mulT t6 t7))).bind fun t8 => (N.ok (toD t8))).bind fun t9 => (N.ok (t9 :: ([] : List D)))).bind fun t11 => (N.ok (t10 :: t11)))).bind fun t12 => (N.ok ((toD (0 : Int)) :: t12))).bind fun t13 => ((szN t13).bind fun t14 => (N.ok (D.tup t14)))).bind fun t15 => N.ok t15)
theorem d_first_lane : D1 G_first_lane N_first_lane := fun h v_0 code_ e_0 => by
  cases e_0; exact sim_def rfl (bj_ret (ej_eq (ej_tupD (ls_cons (ej_toD (ej_c (a := (0 : Int)) rfl)) (ls_cons (ej_toD (ej_binE o_mulT (ej_tuN (ls_cons (ej_c (a := (0 : Int)) rfl) ls_nil)) (ej_c (a := ((8 : Int) : Int)) rfl))) (ls_cons (ej_toD (ej_binE o_mulT (ej_tuN (ls_cons (ej_c (a := (0 : Int)) rfl) ls_nil)) (ej_asI (ej_bin o_ixD (rj_e (ej_v (i := 0) (a := code_) rfl)) (rj_e (ej_c (a := (2 : Int)) rfl)))))) ls_nil))))))
/-! ### _law_same -/
open Classical in
noncomputable def N_law_same (a b : D) : N Bool := if a.enc = b.enc ∧ okD 3 a.enc = true then .ok true else .bad
theorem d_law_same : D2 G_law_same N_law_same := fun h v1 v2 a b e1 e2 => by
  cases e1; cases e2
  unfold N_law_same
  split
  · rename_i c
    show G_law_same [a.enc, b.enc] h = _
    rw [← c.1]
    exact same_ok c.2
  · trivial
theorem N_same_of {a b : D} (e : a.enc = b.enc) (k : okD 3 a.enc = true) : N_law_same a b = .ok true := by
  unfold N_law_same
  exact if_pos ⟨e, k⟩
/-! ### _law_request -/
def N_law_request (code_ : D) (lane_ : D) : N D :=
  (((D.ix code_ (3 : Int)).bind fun t2 => (((D.ix lane_ (0 : Int)).bind fun t1 => (D.asI t1)).bind fun t3 => (D.ix t2 t3))).bind fun (one_4 : D) => ((D.ix lane_ (1 : Int)).bind fun (r_5 : D) => (((D.ix one_4 (0 : Int)).bind fun t6 => (eqD t6 (toD ([108, 111, 97, 100] : List Nat)))).bind fun k7 => if k7 = true then (((((D.ix one_4 (2 : Int)).bind fun t11 => (((((D.ix one_4 (3 : Int)).bind fun t8 => (D.asI t8)).bind fun t9 => (D.ix r_5 t9)).bind fun t10 => (N.ok (t10 :: ([] : List D)))).bind fun t12 => (N.ok (t11 :: t12)))).bind fun t13 => (N.ok ((toD ([108, 111, 97, 100] : List Nat)) :: t13))).bind fun t14 => ((szN t14).bind fun t15 => (N.ok (D.tup t15)))).bind fun t16 => N.ok t16) else (((D.ix one_4 (0 : Int)).bind fun t17 => (eqD t17 (toD ([115, 116, 111, 114, 101] : List Nat)))).bind fun k18 => if k18 = true then (((((D.ix one_4 (1 : Int)).bind fun t26 => (((((D.ix one_4 (2 : Int)).bind fun t19 => (D.asI t19)).bind fun t20 => (D.ix r_5 t20)).bind fun t24 => (((((D.ix one_4 (3 : Int)).bind fun t21 => (D.asI t21)).bind fun t22 => (D.ix r_5 t22)).bind fun t23 => (N.ok (t23 :: ([] : List D)))).bind fun t25 => (N.ok (t24 :: t25)))).bind fun t27 => (N.ok (t26 :: t27)))).bind fun t28 => (N.ok ((toD ([115, 116, 111, 114, 101] : List Nat)) :: t28))).bind fun t29 => ((szN t29).bind fun t30 => (N.ok (D.tup t30)))).bind fun t31 => N.ok t31) else (((D.ix one_4 (0 : Int)).bind fun t32 => (eqD t32 (toD ([97, 116, 111, 109, 105, 99] : List Nat)))).bind fun k33 => if k33 = true then (((((D.ix one_4 (1 : Int)).bind fun t43 => (((D.ix one_4 (2 : Int)).bind fun t41 => (((((D.ix one_4 (3 : Int)).bind fun t34 => (D.asI t34)).bind fun t35 => (D.ix r_5 t35)).bind fun t39 => (((((D.ix one_4 (4 : Int)).bind fun t36 => (D.asI t36)).bind fun t37 => (D.ix r_5 t37)).bind fun t38 => (N.ok (t38 :: ([] : List D)))).bind fun t40 => (N.ok (t39 :: t40)))).bind fun t42 => (N.ok (t41 :: t42)))).bind fun t44 => (N.ok (t43 :: t44)))).bind fun t45 => (N.ok ((toD ([97, 116, 111, 109, 105, 99] : List Nat)) :: t45))).bind fun t46 => ((szN t46).bind fun t47 => (N.ok (D.tup t47)))).bind fun t48 => N.ok t48) else (((D.ix one_4 (0 : Int)).bind fun t49 => (eqD t49 (toD ([98, 97, 114, 114, 105, 101, 114] : List Nat)))).bind fun k50 => if k50 = true then (((((D.ix one_4 (1 : Int)).bind fun t51 => (N.ok (t51 :: ([] : List D)))).bind fun t52 => (N.ok ((toD ([98, 97, 114, 114, 105, 101, 114] : List Nat)) :: t52))).bind fun t53 => ((szN t53).bind fun t54 => (N.ok (D.tup t54)))).bind fun t55 => N.ok t55) else (((D.ix one_4 (0 : Int)).bind fun t56 => (eqD t56 (toD ([99, 111, 108, 108, 101, 99, 116] : List Nat)))).bind fun k57 => if k57 = true then (((((D.ix one_4 (1 : Int)).bind fun t63 => (((((D.ix one_4 (3 : Int)).bind fun t58 => (D.asI t58)).bind fun t59 => (D.ix r_5 t59)).bind fun t61 => (((D.ix one_4 (4 : Int)).bind fun t60 => (N.ok (t60 :: ([] : List D)))).bind fun t62 => (N.ok (t61 :: t62)))).bind fun t64 => (N.ok (t63 :: t64)))).bind fun t65 => (N.ok ((toD ([99, 111, 108, 108, 101, 99, 116] : List Nat)) :: t65))).bind fun t66 => ((szN t66).bind fun t67 => (N.ok (D.tup t67)))).bind fun t68 => N.ok t68) else ((((D.ix one_4 (0 : Int)).bind fun t69 => (eqD t69 (toD ([101, 120, 105, 116] : List Nat)))).bind fun t72 => (if t72 = true then ((szN ((toD ([101, 120, 105, 116] : List Nat)) :: ([] : List D))).bind fun t70 => (N.ok (D.tup t70))) else ((szN ((toD ([110, 111, 110, 101] : List Nat)) :: ([] : List D))).bind fun t71 => (N.ok (D.tup t71))))).bind fun t73 => N.ok t73))))))))
theorem d_law_request : D2 G_law_request N_law_request := fun h v_0 v_1 code_ lane_ e_0 e_1 => by
  cases e_0; cases e_1; exact sim_def rfl (bj_set (i := 2) (ej_eq (ej_bin o_ixD (rj_e (ej_bin o_ixD (rj_e (ej_v (i := 0) (a := code_) rfl)) (rj_e (ej_c (a := (3 : Int)) rfl)))) (rj_e (ej_asI (ej_bin o_ixD (rj_e (ej_v (i := 1) (a := lane_) rfl)) (rj_e (ej_c (a := (0 : Int)) rfl)))))) ) (fun one_4 => (bj_set (i := 3) (ej_eq (ej_bin o_ixD (rj_e (ej_v (i := 1) (a := lane_) rfl)) (rj_e (ej_c (a := (1 : Int)) rfl))) ) (fun r_5 => (bj_ifnf (ts_eq (ts_e (ej_bin o_eqD (rj_e (ej_bin o_ixD (rj_e (ej_v (i := 2) (a := one_4) rfl)) (rj_e (ej_c (a := (0 : Int)) rfl)))) (rj_e (ej_toD (ej_c (a := ([108, 111, 97, 100] : List Nat)) rfl)))))) (bj_ret (ej_eq (ej_tupD (ls_cons (ej_toD (ej_c (a := ([108, 111, 97, 100] : List Nat)) rfl)) (ls_cons (ej_bin o_ixD (rj_e (ej_v (i := 2) (a := one_4) rfl)) (rj_e (ej_c (a := (2 : Int)) rfl))) (ls_cons (ej_bin o_ixD (rj_e (ej_v (i := 3) (a := r_5) rfl)) (rj_e (ej_asI (ej_bin o_ixD (rj_e (ej_v (i := 2) (a := one_4) rfl)) (rj_e (ej_c (a := (3 : Int)) rfl)))))) ls_nil)))))) (bj_skip (bj_ifnf (ts_eq (ts_e (ej_bin o_eqD (rj_e (ej_bin o_ixD (rj_e (ej_v (i := 2) (a := one_4) rfl)) (rj_e (ej_c (a := (0 : Int)) rfl)))) (rj_e (ej_toD (ej_c (a := ([115, 116, 111, 114, 101] : List Nat)) rfl)))))) (bj_ret (ej_eq (ej_tupD (ls_cons (ej_toD (ej_c (a := ([115, 116, 111, 114, 101] : List Nat)) rfl)) (ls_cons (ej_bin o_ixD (rj_e (ej_v (i := 2) (a := one_4) rfl)) (rj_e (ej_c (a := (1 : Int)) rfl))) (ls_cons (ej_bin o_ixD (rj_e (ej_v (i := 3) (a := r_5) rfl)) (rj_e (ej_asI (ej_bin o_ixD (rj_e (ej_v (i := 2) (a := one_4) rfl)) (rj_e (ej_c (a := (2 : Int)) rfl)))))) (ls_cons (ej_bin o_ixD (rj_e (ej_v (i := 3) (a := r_5) rfl)) (rj_e (ej_asI (ej_bin o_ixD (rj_e (ej_v (i := 2) (a := one_4) rfl)) (rj_e (ej_c (a := (3 : Int)) rfl)))))) ls_nil))))))) (bj_skip (bj_ifnf (ts_eq (ts_e (ej_bin o_eqD (rj_e (ej_bin o_ixD (rj_e (ej_v (i := 2) (a := one_4) rfl)) (rj_e (ej_c (a := (0 : Int)) rfl)))) (rj_e (ej_toD (ej_c (a := ([97, 116, 111, 109, 105, 99] : List Nat)) rfl)))))) (bj_ret (ej_eq (ej_tupD (ls_cons (ej_toD (ej_c (a := ([97, 116, 111, 109, 105, 99] : List Nat)) rfl)) (ls_cons (ej_bin o_ixD (rj_e (ej_v (i := 2) (a := one_4) rfl)) (rj_e (ej_c (a := (1 : Int)) rfl))) (ls_cons (ej_bin o_ixD (rj_e (ej_v (i := 2) (a := one_4) rfl)) (rj_e (ej_c (a := (2 : Int)) rfl))) (ls_cons (ej_bin o_ixD (rj_e (ej_v (i := 3) (a := r_5) rfl)) (rj_e (ej_asI (ej_bin o_ixD (rj_e (ej_v (i := 2) (a := one_4) rfl)) (rj_e (ej_c (a := (3 : Int)) rfl)))))) (ls_cons (ej_bin o_ixD (rj_e (ej_v (i := 3) (a := r_5) rfl)) (rj_e (ej_asI (ej_bin o_ixD (rj_e (ej_v (i := 2) (a := one_4) rfl)) (rj_e (ej_c (a := (4 : Int)) rfl)))))) ls_nil)))))))) (bj_skip (bj_ifnf (ts_eq (ts_e (ej_bin o_eqD (rj_e (ej_bin o_ixD (rj_e (ej_v (i := 2) (a := one_4) rfl)) (rj_e (ej_c (a := (0 : Int)) rfl)))) (rj_e (ej_toD (ej_c (a := ([98, 97, 114, 114, 105, 101, 114] : List Nat)) rfl)))))) (bj_ret (ej_eq (ej_tupD (ls_cons (ej_toD (ej_c (a := ([98, 97, 114, 114, 105, 101, 114] : List Nat)) rfl)) (ls_cons (ej_bin o_ixD (rj_e (ej_v (i := 2) (a := one_4) rfl)) (rj_e (ej_c (a := (1 : Int)) rfl))) ls_nil))))) (bj_skip (bj_ifnf (ts_eq (ts_e (ej_bin o_eqD (rj_e (ej_bin o_ixD (rj_e (ej_v (i := 2) (a := one_4) rfl)) (rj_e (ej_c (a := (0 : Int)) rfl)))) (rj_e (ej_toD (ej_c (a := ([99, 111, 108, 108, 101, 99, 116] : List Nat)) rfl)))))) (bj_ret (ej_eq (ej_tupD (ls_cons (ej_toD (ej_c (a := ([99, 111, 108, 108, 101, 99, 116] : List Nat)) rfl)) (ls_cons (ej_bin o_ixD (rj_e (ej_v (i := 2) (a := one_4) rfl)) (rj_e (ej_c (a := (1 : Int)) rfl))) (ls_cons (ej_bin o_ixD (rj_e (ej_v (i := 3) (a := r_5) rfl)) (rj_e (ej_asI (ej_bin o_ixD (rj_e (ej_v (i := 2) (a := one_4) rfl)) (rj_e (ej_c (a := (3 : Int)) rfl)))))) (ls_cons (ej_bin o_ixD (rj_e (ej_v (i := 2) (a := one_4) rfl)) (rj_e (ej_c (a := (4 : Int)) rfl))) ls_nil))))))) (bj_skip (bj_ret (ej_eq (ej_if (ts_e (ej_bin o_eqD (rj_e (ej_bin o_ixD (rj_e (ej_v (i := 2) (a := one_4) rfl)) (rj_e (ej_c (a := (0 : Int)) rfl)))) (rj_e (ej_toD (ej_c (a := ([101, 120, 105, 116] : List Nat)) rfl))))) (ej_tupD (ls_cons (ej_toD (ej_c (a := ([101, 120, 105, 116] : List Nat)) rfl)) ls_nil)) (ej_tupD (ls_cons (ej_toD (ej_c (a := ([110, 111, 110, 101] : List Nat)) rfl)) ls_nil)))))))))))))))))))
/-! ### request -/
def N_request (code_ : D) (lane_ : D) : N D :=
  ((D.as3 lane_).bind fun (u1 : (P3 D D D)) => (((D.ix code_ (3 : Int)).bind fun t2 => ((D.asI u1.a).bind fun t3 => (D.ix t2 t3))).bind fun (instruction_4 : D) => ((D.ix instruction_4 (0 : Int)).bind fun (word_5 : D) => ((eqD word_5 (toD ([108, 111, 97, 100] : List Nat))).bind fun k6 => if k6 = true then (((((D.ix instruction_4 (2 : Int)).bind fun t10 => (((((D.ix instruction_4 (3 : Int)).bind fun t7 => (D.asI t7)).bind fun t8 => (D.ix u1.b t8)).bind fun t9 => (N.ok (t9 :: ([] : List D)))).bind fun t11 => (N.ok (t10 :: t11)))).bind fun t12 => (N.ok ((toD ([108, 111, 97, 100] : List Nat)) :: t12))).bind fun t13 => ((szN t13).bind fun t14 => (N.ok (D.tup t14)))).bind fun t15 => N.ok t15) else ((eqD word_5 (toD ([115, 116, 111, 114, 101] : List Nat))).bind fun k16 => if k16 = true then (((((D.ix instruction_4 (1 : Int)).bind fun t24 => (((((D.ix instruction_4 (2 : Int)).bind fun t17 => (D.asI t17)).bind fun t18 => (D.ix u1.b t18)).bind fun t22 => (((((D.ix instruction_4 (3 : Int)).bind fun t19 => (D.asI t19)).bind fun t20 => (D.ix u1.b t20)).bind fun t21 => (N.ok (t21 :: ([] : List D)))).bind fun t23 => (N.ok (t22 :: t23)))).bind fun t25 => (N.ok (t24 :: t25)))).bind fun t26 => (N.ok ((toD ([115, 116, 111, 114, 101] : List Nat)) :: t26))).bind fun t27 => ((szN t27).bind fun t28 => (N.ok (D.tup t28)))).bind fun t29 => N.ok t29) else ((eqD word_5 (toD ([97, 116, 111, 109, 105, 99] : List Nat))).bind fun k30 => if k30 = true then (((((D.ix instruction_4 (1 : Int)).bind fun t40 => (((D.ix instruction_4 (2 : Int)).bind fun t38 => (((((D.ix instruction_4 (3 : Int)).bind fun t31 => (D.asI t31)).bind fun t32 => (D.ix u1.b t32)).bind fun t36 => (((((D.ix instruction_4 (4 : Int)).bind fun t33 => (D.asI t33)).bind fun t34 => (D.ix u1.b t34)).bind fun t35 => (N.ok (t35 :: ([] : List D)))).bind fun t37 => (N.ok (t36 :: t37)))).bind fun t39 => (N.ok (t38 :: t39)))).bind fun t41 => (N.ok (t40 :: t41)))).bind fun t42 => (N.ok ((toD ([97, 116, 111, 109, 105, 99] : List Nat)) :: t42))).bind fun t43 => ((szN t43).bind fun t44 => (N.ok (D.tup t44)))).bind fun t45 => N.ok t45) else (((D.asS word_5).bind fun t47 => (((szN (([98, 97, 114, 114, 105, 101, 114] : List Nat) :: (([101, 120, 105, 116] : List Nat) :: ([] : List (List Nat))))).bind fun t46 => (N.ok (Tu.mk t46))).bind fun t48 => (N.ok (memB t47 (Tu.l t48))))).bind fun k49 => if k49 = true then ((N.ok instruction_4).bind fun t50 => N.ok t50) else ((eqD word_5 (toD ([99, 111, 108, 108, 101, 99, 116] : List Nat))).bind fun k51 => if k51 = true then (((((D.ix instruction_4 (1 : Int)).bind fun t57 => (((((D.ix instruction_4 (3 : Int)).bind fun t52 => (D.asI t52)).bind fun t53 => (D.ix u1.b t53)).bind fun t55 => (((D.ix instruction_4 (4 : Int)).bind fun t54 => (N.ok (t54 :: ([] : List D)))).bind fun t56 => (N.ok (t55 :: t56)))).bind fun t58 => (N.ok (t57 :: t58)))).bind fun t59 => (N.ok ((toD ([99, 111, 108, 108, 101, 99, 116] : List Nat)) :: t59))).bind fun t60 => ((szN t60).bind fun t61 => (N.ok (D.tup t61)))).bind fun t62 => N.ok t62) else (((szN ((toD ([110, 111, 110, 101] : List Nat)) :: ([] : List D))).bind fun t63 => (N.ok (D.tup t63))).bind fun t64 => N.ok t64)))))))))
theorem d_request : D2 G_request N_request := fun h v_0 v_1 code_ lane_ e_0 e_1 => by
  cases e_0; cases e_1; exact sim_def rfl (bj_asg tgt_p3 (ej_eq (ej_as as3_e as3_x (ej_v (i := 1) (a := lane_) rfl)) ) (fun u1 => (bj_set (i := 5) (ej_eq (ej_bin o_ixD (rj_e (ej_bin o_ixD (rj_e (ej_v (i := 0) (a := code_) rfl)) (rj_e (ej_c (a := (3 : Int)) rfl)))) (rj_e (ej_asI (ej_v (i := 2) (a := u1.a) rfl)))) ) (fun instruction_4 => (bj_set (i := 6) (ej_eq (ej_bin o_ixD (rj_e (ej_v (i := 5) (a := instruction_4) rfl)) (rj_e (ej_c (a := (0 : Int)) rfl))) ) (fun word_5 => (bj_ifnf (ts_eq (ts_e (ej_bin o_eqD (rj_e (ej_v (i := 6) (a := word_5) rfl)) (rj_e (ej_toD (ej_c (a := ([108, 111, 97, 100] : List Nat)) rfl)))))) (bj_ret (ej_eq (ej_tupD (ls_cons (ej_toD (ej_c (a := ([108, 111, 97, 100] : List Nat)) rfl)) (ls_cons (ej_bin o_ixD (rj_e (ej_v (i := 5) (a := instruction_4) rfl)) (rj_e (ej_c (a := (2 : Int)) rfl))) (ls_cons (ej_bin o_ixD (rj_e (ej_v (i := 3) (a := u1.b) rfl)) (rj_e (ej_asI (ej_bin o_ixD (rj_e (ej_v (i := 5) (a := instruction_4) rfl)) (rj_e (ej_c (a := (3 : Int)) rfl)))))) ls_nil)))))) (bj_skip (bj_ifnf (ts_eq (ts_e (ej_bin o_eqD (rj_e (ej_v (i := 6) (a := word_5) rfl)) (rj_e (ej_toD (ej_c (a := ([115, 116, 111, 114, 101] : List Nat)) rfl)))))) (bj_ret (ej_eq (ej_tupD (ls_cons (ej_toD (ej_c (a := ([115, 116, 111, 114, 101] : List Nat)) rfl)) (ls_cons (ej_bin o_ixD (rj_e (ej_v (i := 5) (a := instruction_4) rfl)) (rj_e (ej_c (a := (1 : Int)) rfl))) (ls_cons (ej_bin o_ixD (rj_e (ej_v (i := 3) (a := u1.b) rfl)) (rj_e (ej_asI (ej_bin o_ixD (rj_e (ej_v (i := 5) (a := instruction_4) rfl)) (rj_e (ej_c (a := (2 : Int)) rfl)))))) (ls_cons (ej_bin o_ixD (rj_e (ej_v (i := 3) (a := u1.b) rfl)) (rj_e (ej_asI (ej_bin o_ixD (rj_e (ej_v (i := 5) (a := instruction_4) rfl)) (rj_e (ej_c (a := (3 : Int)) rfl)))))) ls_nil))))))) (bj_skip (bj_ifnf (ts_eq (ts_e (ej_bin o_eqD (rj_e (ej_v (i := 6) (a := word_5) rfl)) (rj_e (ej_toD (ej_c (a := ([97, 116, 111, 109, 105, 99] : List Nat)) rfl)))))) (bj_ret (ej_eq (ej_tupD (ls_cons (ej_toD (ej_c (a := ([97, 116, 111, 109, 105, 99] : List Nat)) rfl)) (ls_cons (ej_bin o_ixD (rj_e (ej_v (i := 5) (a := instruction_4) rfl)) (rj_e (ej_c (a := (1 : Int)) rfl))) (ls_cons (ej_bin o_ixD (rj_e (ej_v (i := 5) (a := instruction_4) rfl)) (rj_e (ej_c (a := (2 : Int)) rfl))) (ls_cons (ej_bin o_ixD (rj_e (ej_v (i := 3) (a := u1.b) rfl)) (rj_e (ej_asI (ej_bin o_ixD (rj_e (ej_v (i := 5) (a := instruction_4) rfl)) (rj_e (ej_c (a := (3 : Int)) rfl)))))) (ls_cons (ej_bin o_ixD (rj_e (ej_v (i := 3) (a := u1.b) rfl)) (rj_e (ej_asI (ej_bin o_ixD (rj_e (ej_v (i := 5) (a := instruction_4) rfl)) (rj_e (ej_c (a := (4 : Int)) rfl)))))) ls_nil)))))))) (bj_skip (bj_ifnf (ts_eq (ts_e (ej_bin o_inT0 (rj_e (ej_asS (ej_v (i := 6) (a := word_5) rfl))) (rj_e (ej_tuN (ls_cons (ej_c (a := ([98, 97, 114, 114, 105, 101, 114] : List Nat)) rfl) (ls_cons (ej_c (a := ([101, 120, 105, 116] : List Nat)) rfl) ls_nil))))))) (bj_ret (ej_eq (ej_v (i := 5) (a := instruction_4) rfl))) (bj_skip (bj_ifnf (ts_eq (ts_e (ej_bin o_eqD (rj_e (ej_v (i := 6) (a := word_5) rfl)) (rj_e (ej_toD (ej_c (a := ([99, 111, 108, 108, 101, 99, 116] : List Nat)) rfl)))))) (bj_ret (ej_eq (ej_tupD (ls_cons (ej_toD (ej_c (a := ([99, 111, 108, 108, 101, 99, 116] : List Nat)) rfl)) (ls_cons (ej_bin o_ixD (rj_e (ej_v (i := 5) (a := instruction_4) rfl)) (rj_e (ej_c (a := (1 : Int)) rfl))) (ls_cons (ej_bin o_ixD (rj_e (ej_v (i := 3) (a := u1.b) rfl)) (rj_e (ej_asI (ej_bin o_ixD (rj_e (ej_v (i := 5) (a := instruction_4) rfl)) (rj_e (ej_c (a := (3 : Int)) rfl)))))) (ls_cons (ej_bin o_ixD (rj_e (ej_v (i := 5) (a := instruction_4) rfl)) (rj_e (ej_c (a := (4 : Int)) rfl))) ls_nil))))))) (bj_skip (bj_ret (ej_eq (ej_tupD (ls_cons (ej_toD (ej_c (a := ([110, 111, 110, 101] : List Nat)) rfl)) ls_nil))))))))))))))))))))
/-! ### _law_unary -/
open Classical in
def N_law_unary (op : List Nat) (a : Int) : N Int := if op ∈ UNS then .ok (unW op a) else .bad
theorem d_law_unary : D2 G_law_unary N_law_unary := fun h v1 v2 op a e1 e2 => by
  cases e1; cases e2
  unfold N_law_unary
  split
  · rename_i c; exact G_law_unary_of c
  · trivial
theorem N_law_unary_of {op : List Nat} {a : Int} (ho : op ∈ UNS) : N_law_unary op a = .ok (unW op a) := if_pos ho
/-! ### _law_binary -/
open Classical in
def N_law_binary (op : List Nat) (a b : Int) : N Int := if op ∈ BINS ∧ isW a ∧ isW b then .ok (binW op a b) else .bad
theorem d_law_binary : D3 G_law_binary N_law_binary := fun h v1 v2 v3 op a b e1 e2 e3 => by
  cases e1; cases e2; cases e3
  unfold N_law_binary
  split
  · rename_i c; exact G_law_binary_of c.2.1 c.2.2 c.1
  · trivial
theorem N_law_binary_of {op : List Nat} {a b : Int} (ho : op ∈ BINS) (ha : isW a) (hb : isW b) : N_law_binary op a b = .ok (binW op a b) := if_pos ⟨ho, ha, hb⟩
/-! ### _law_behind -/
noncomputable def N_law_behind (code launch : D) (n : Int) (lane : D) (w : Int) : N D := nOf G_law_behind [code.enc, launch.enc, .int n, lane.enc, .int w]
theorem d_law_behind : D5 G_law_behind N_law_behind := fun h v1 v2 v3 v4 v5 a b c d e e1 e2 e3 e4 e5 => by
  cases e1; cases e2; cases e3; cases e4; cases e5; exact nOf_sim
/-! ### changed -/
def N_changed (row_ : (Tu D)) (at_ : Int) (word_ : D) : N (Tu D) :=
  ((((cutT row_ (none : Option Int) (some at_)).bind fun t5 => (((szN (word_ :: ([] : List D))).bind fun t4 => (N.ok (Tu.mk t4))).bind fun t6 => (tuN (Tu.l t5 ++ Tu.l t6)))).bind fun t7 => ((cutT row_ (some (at_ + (1 : Int))) (none : Option Int)).bind fun t8 => (tuN (Tu.l t7 ++ Tu.l t8)))).bind fun t9 => N.ok t9)
theorem d_changed : D3 G_changed N_changed := fun h v_0 v_1 v_2 row_ at_ word_ e_0 e_1 e_2 => by
  cases e_0; cases e_1; cases e_2; exact sim_def rfl (bj_ret (ej_eq (ej_binE o_addT (ej_binE o_addT (ej_sl s_T (rj_e (ej_v (i := 0) (a := row_) rfl)) po_no (po_e (ej_v (i := 1) (a := at_) rfl))) (ej_tuN (ls_cons (ej_v (i := 2) (a := word_) rfl) ls_nil))) (ej_sl s_T (rj_e (ej_v (i := 0) (a := row_) rfl)) (po_e (ej_bin o_addI (rj_e (ej_v (i := 1) (a := at_) rfl)) (rj_e (ej_c (a := (1 : Int)) rfl)))) po_no))))
/-! ### special -/
def N_special (name_ : D) (thread_ : Int) (launch_ : D) : N Int :=
  ((D.as4 launch_).bind fun (u1 : (P4 D D D D)) => ((eqD name_ (toD ([116, 105, 100] : List Nat))).bind fun k2 => if k2 = true then (((D.asI u1.b).bind fun t3 => (modI thread_ t3)).bind fun t4 => N.ok t4) else ((eqD name_ (toD ([98, 105, 100] : List Nat))).bind fun k5 => if k5 = true then (((D.asI u1.b).bind fun t6 => (divI thread_ t6)).bind fun t7 => N.ok t7) else ((eqD name_ (toD ([100, 105, 109] : List Nat))).bind fun k8 => if k8 = true then ((D.asI u1.b).bind fun t9 => N.ok t9) else ((D.asI u1.a).bind fun t10 => N.ok t10)))))
theorem d_special : D3 G_special N_special := fun h v_0 v_1 v_2 name_ thread_ launch_ e_0 e_1 e_2 => by
  cases e_0; cases e_1; cases e_2; exact sim_def rfl (bj_asg tgt_p4 (ej_eq (ej_as as4_e as4_x (ej_v (i := 2) (a := launch_) rfl)) ) (fun u1 => (bj_ifnf (ts_eq (ts_e (ej_bin o_eqD (rj_e (ej_v (i := 0) (a := name_) rfl)) (rj_e (ej_toD (ej_c (a := ([116, 105, 100] : List Nat)) rfl)))))) (bj_ret (ej_eq (ej_bin o_modI (rj_e (ej_v (i := 1) (a := thread_) rfl)) (rj_e (ej_asI (ej_v (i := 4) (a := u1.b) rfl)))))) (bj_skip (bj_ifnf (ts_eq (ts_e (ej_bin o_eqD (rj_e (ej_v (i := 0) (a := name_) rfl)) (rj_e (ej_toD (ej_c (a := ([98, 105, 100] : List Nat)) rfl)))))) (bj_ret (ej_eq (ej_bin o_divI (rj_e (ej_v (i := 1) (a := thread_) rfl)) (rj_e (ej_asI (ej_v (i := 4) (a := u1.b) rfl)))))) (bj_skip (bj_ifnf (ts_eq (ts_e (ej_bin o_eqD (rj_e (ej_v (i := 0) (a := name_) rfl)) (rj_e (ej_toD (ej_c (a := ([100, 105, 109] : List Nat)) rfl)))))) (bj_ret (ej_eq (ej_asI (ej_v (i := 4) (a := u1.b) rfl)))) (bj_skip (bj_ret (ej_eq (ej_asI (ej_v (i := 3) (a := u1.a) rfl))))))))))))
/-! ### unary -/
def N_unary (op : List Nat) (a : Int) : N Int := .ok (unW op a)
theorem d_unary : D2 G_unary N_unary := fun h v1 v2 op a e1 e2 => by
  cases e1; cases e2
  exact G_unary_of
/-! ### binary -/
open Classical in
def N_binary (op : List Nat) (a b : Int) : N Int := if op ∈ BINS ∧ isW a ∧ isW b then .ok (binW op a b) else .bad
theorem d_binary : D3 G_binary N_binary := fun h v1 v2 v3 op a b e1 e2 e3 => by
  cases e1; cases e2; cases e3
  unfold N_binary
  split
  · rename_i c; exact G_binary_of c.2.1 c.2.2 c.1
  · trivial
theorem N_binary_of {op : List Nat} {a b : Int} (ho : op ∈ BINS) (ha : isW a) (hb : isW b) : N_binary op a b = .ok (binW op a b) := if_pos ⟨ho, ha, hb⟩
/-! ### result -/
def N_result (instruction_ : D) (lane_ : D) (launch_ : D) (thread_ : Int) (word_ : Int) : N (Option (P2 D D)) :=
  ((D.ix instruction_ (0 : Int)).bind fun (kind_1 : D) => ((D.ix lane_ (1 : Int)).bind fun (words_2 : D) => ((eqD kind_1 (toD ([119, 111, 114, 100] : List Nat))).bind fun k3 => if k3 = true then ((((D.ix instruction_ (1 : Int)).bind fun t4 => ((D.ix instruction_ (2 : Int)).bind fun t5 => (N.ok (P2.mk t4 t5)))).bind fun t6 => (N.ok (some t6))).bind fun t7 => N.ok t7) else ((eqD kind_1 (toD ([112, 97, 114, 97, 109] : List Nat))).bind fun k8 => if k8 = true then ((((D.ix instruction_ (1 : Int)).bind fun t12 => (((D.ix launch_ (2 : Int)).bind fun t10 => (((D.ix instruction_ (2 : Int)).bind fun t9 => (D.asI t9)).bind fun t11 => (D.ix t10 t11))).bind fun t13 => (N.ok (P2.mk t12 t13)))).bind fun t14 => (N.ok (some t14))).bind fun t15 => N.ok t15) else ((eqD kind_1 (toD ([115, 112, 101, 99, 105, 97, 108] : List Nat))).bind fun k16 => if k16 = true then ((((D.ix instruction_ (1 : Int)).bind fun t19 => ((((D.ix instruction_ (2 : Int)).bind fun t17 => (noE (N_special t17 thread_ launch_))).bind fun t18 => (N.ok (toD t18))).bind fun t20 => (N.ok (P2.mk t19 t20)))).bind fun t21 => (N.ok (some t21))).bind fun t22 => N.ok t22) else ((eqD kind_1 (toD ([99, 111, 112, 121] : List Nat))).bind fun k23 => if k23 = true then ((((D.ix instruction_ (1 : Int)).bind fun t26 => ((((D.ix instruction_ (2 : Int)).bind fun t24 => (D.asI t24)).bind fun t25 => (D.ix words_2 t25)).bind fun t27 => (N.ok (P2.mk t26 t27)))).bind fun t28 => (N.ok (some t28))).bind fun t29 => N.ok t29) else ((eqD kind_1 (toD ([117, 110, 97, 114, 121] : List Nat))).bind fun k30 => if k30 = true then ((((D.ix instruction_ (2 : Int)).bind fun t38 => (((((D.ix instruction_ (1 : Int)).bind fun t31 => (D.asS t31)).bind fun t35 => (((((D.ix instruction_ (3 : Int)).bind fun t32 => (D.asI t32)).bind fun t33 => (D.ix words_2 t33)).bind fun t34 => (D.asI t34)).bind fun t36 => (noE (N_unary t35 t36)))).bind fun t37 => (N.ok (toD t37))).bind fun t39 => (N.ok (P2.mk t38 t39)))).bind fun t40 => (N.ok (some t40))).bind fun t41 => N.ok t41) else ((eqD kind_1 (toD ([98, 105, 110, 97, 114, 121] : List Nat))).bind fun k42 => if k42 = true then ((((D.ix instruction_ (2 : Int)).bind fun t54 => (((((D.ix instruction_ (1 : Int)).bind fun t43 => (D.asS t43)).bind fun t50 => (((((D.ix instruction_ (3 : Int)).bind fun t44 => (D.asI t44)).bind fun t45 => (D.ix words_2 t45)).bind fun t46 => (D.asI t46)).bind fun t51 => (((((D.ix instruction_ (4 : Int)).bind fun t47 => (D.asI t47)).bind fun t48 => (D.ix words_2 t48)).bind fun t49 => (D.asI t49)).bind fun t52 => (noE (N_binary t50 t51 t52))))).bind fun t53 => (N.ok (toD t53))).bind fun t55 => (N.ok (P2.mk t54 t55)))).bind fun t56 => (N.ok (some t56))).bind fun t57 => N.ok t57) else ((eqD kind_1 (toD ([103, 101, 116] : List Nat))).bind fun k58 => if k58 = true then ((((D.ix instruction_ (1 : Int)).bind fun t62 => (((D.ix lane_ (2 : Int)).bind fun t60 => (((D.ix instruction_ (2 : Int)).bind fun t59 => (D.asI t59)).bind fun t61 => (D.ix t60 t61))).bind fun t63 => (N.ok (P2.mk t62 t63)))).bind fun t64 => (N.ok (some t64))).bind fun t65 => N.ok t65) else ((eqD kind_1 (toD ([108, 111, 97, 100] : List Nat))).bind fun k66 => if k66 = true then ((((D.ix instruction_ (1 : Int)).bind fun t67 => (N.ok (P2.mk t67 (toD word_)))).bind fun t68 => (N.ok (some t68))).bind fun t69 => N.ok t69) else ((eqD kind_1 (toD ([99, 111, 108, 108, 101, 99, 116] : List Nat))).bind fun k70 => if k70 = true then ((((D.ix instruction_ (2 : Int)).bind fun t71 => (N.ok (P2.mk t71 (toD word_)))).bind fun t72 => (N.ok (some t72))).bind fun t73 => N.ok t73) else ((N.ok (none : (Option (P2 D D)))).bind fun t74 => N.ok t74))))))))))))
theorem d_result : D5 G_result N_result := fun h v_0 v_1 v_2 v_3 v_4 instruction_ lane_ launch_ thread_ word_ e_0 e_1 e_2 e_3 e_4 => by
  cases e_0; cases e_1; cases e_2; cases e_3; cases e_4; exact sim_def rfl (bj_set (i := 5) (ej_eq (ej_bin o_ixD (rj_e (ej_v (i := 0) (a := instruction_) rfl)) (rj_e (ej_c (a := (0 : Int)) rfl))) ) (fun kind_1 => (bj_set (i := 6) (ej_eq (ej_bin o_ixD (rj_e (ej_v (i := 1) (a := lane_) rfl)) (rj_e (ej_c (a := (1 : Int)) rfl))) ) (fun words_2 => (bj_ifnf (ts_eq (ts_e (ej_bin o_eqD (rj_e (ej_v (i := 5) (a := kind_1) rfl)) (rj_e (ej_toD (ej_c (a := ([119, 111, 114, 100] : List Nat)) rfl)))))) (bj_ret (ej_eq (ej_some (ej_p2 (ej_bin o_ixD (rj_e (ej_v (i := 0) (a := instruction_) rfl)) (rj_e (ej_c (a := (1 : Int)) rfl))) (ej_bin o_ixD (rj_e (ej_v (i := 0) (a := instruction_) rfl)) (rj_e (ej_c (a := (2 : Int)) rfl))))))) (bj_skip (bj_ifnf (ts_eq (ts_e (ej_bin o_eqD (rj_e (ej_v (i := 5) (a := kind_1) rfl)) (rj_e (ej_toD (ej_c (a := ([112, 97, 114, 97, 109] : List Nat)) rfl)))))) (bj_ret (ej_eq (ej_some (ej_p2 (ej_bin o_ixD (rj_e (ej_v (i := 0) (a := instruction_) rfl)) (rj_e (ej_c (a := (1 : Int)) rfl))) (ej_bin o_ixD (rj_e (ej_bin o_ixD (rj_e (ej_v (i := 2) (a := launch_) rfl)) (rj_e (ej_c (a := (2 : Int)) rfl)))) (rj_e (ej_asI (ej_bin o_ixD (rj_e (ej_v (i := 0) (a := instruction_) rfl)) (rj_e (ej_c (a := (2 : Int)) rfl)))))))))) (bj_skip (bj_ifnf (ts_eq (ts_e (ej_bin o_eqD (rj_e (ej_v (i := 5) (a := kind_1) rfl)) (rj_e (ej_toD (ej_c (a := ([115, 112, 101, 99, 105, 97, 108] : List Nat)) rfl)))))) (bj_ret (ej_eq (ej_some (ej_p2 (ej_bin o_ixD (rj_e (ej_v (i := 0) (a := instruction_) rfl)) (rj_e (ej_c (a := (1 : Int)) rfl))) (ej_toD (ej_d3 d_special (vj_e (ej_bin o_ixD (rj_e (ej_v (i := 0) (a := instruction_) rfl)) (rj_e (ej_c (a := (2 : Int)) rfl)))) (vj_e (ej_v (i := 3) (a := thread_) rfl)) (vj_e (ej_v (i := 2) (a := launch_) rfl)))))))) (bj_skip (bj_ifnf (ts_eq (ts_e (ej_bin o_eqD (rj_e (ej_v (i := 5) (a := kind_1) rfl)) (rj_e (ej_toD (ej_c (a := ([99, 111, 112, 121] : List Nat)) rfl)))))) (bj_ret (ej_eq (ej_some (ej_p2 (ej_bin o_ixD (rj_e (ej_v (i := 0) (a := instruction_) rfl)) (rj_e (ej_c (a := (1 : Int)) rfl))) (ej_bin o_ixD (rj_e (ej_v (i := 6) (a := words_2) rfl)) (rj_e (ej_asI (ej_bin o_ixD (rj_e (ej_v (i := 0) (a := instruction_) rfl)) (rj_e (ej_c (a := (2 : Int)) rfl)))))))))) (bj_skip (bj_ifnf (ts_eq (ts_e (ej_bin o_eqD (rj_e (ej_v (i := 5) (a := kind_1) rfl)) (rj_e (ej_toD (ej_c (a := ([117, 110, 97, 114, 121] : List Nat)) rfl)))))) (bj_ret (ej_eq (ej_some (ej_p2 (ej_bin o_ixD (rj_e (ej_v (i := 0) (a := instruction_) rfl)) (rj_e (ej_c (a := (2 : Int)) rfl))) (ej_toD (ej_d2 d_unary (vj_e (ej_asS (ej_bin o_ixD (rj_e (ej_v (i := 0) (a := instruction_) rfl)) (rj_e (ej_c (a := (1 : Int)) rfl))))) (vj_e (ej_asI (ej_bin o_ixD (rj_e (ej_v (i := 6) (a := words_2) rfl)) (rj_e (ej_asI (ej_bin o_ixD (rj_e (ej_v (i := 0) (a := instruction_) rfl)) (rj_e (ej_c (a := (3 : Int)) rfl)))))))))))))) (bj_skip (bj_ifnf (ts_eq (ts_e (ej_bin o_eqD (rj_e (ej_v (i := 5) (a := kind_1) rfl)) (rj_e (ej_toD (ej_c (a := ([98, 105, 110, 97, 114, 121] : List Nat)) rfl)))))) (bj_ret (ej_eq (ej_some (ej_p2 (ej_bin o_ixD (rj_e (ej_v (i := 0) (a := instruction_) rfl)) (rj_e (ej_c (a := (2 : Int)) rfl))) (ej_toD (ej_d3 d_binary (vj_e (ej_asS (ej_bin o_ixD (rj_e (ej_v (i := 0) (a := instruction_) rfl)) (rj_e (ej_c (a := (1 : Int)) rfl))))) (vj_e (ej_asI (ej_bin o_ixD (rj_e (ej_v (i := 6) (a := words_2) rfl)) (rj_e (ej_asI (ej_bin o_ixD (rj_e (ej_v (i := 0) (a := instruction_) rfl)) (rj_e (ej_c (a := (3 : Int)) rfl)))))))) (vj_e (ej_asI (ej_bin o_ixD (rj_e (ej_v (i := 6) (a := words_2) rfl)) (rj_e (ej_asI (ej_bin o_ixD (rj_e (ej_v (i := 0) (a := instruction_) rfl)) (rj_e (ej_c (a := (4 : Int)) rfl)))))))))))))) (bj_skip (bj_ifnf (ts_eq (ts_e (ej_bin o_eqD (rj_e (ej_v (i := 5) (a := kind_1) rfl)) (rj_e (ej_toD (ej_c (a := ([103, 101, 116] : List Nat)) rfl)))))) (bj_ret (ej_eq (ej_some (ej_p2 (ej_bin o_ixD (rj_e (ej_v (i := 0) (a := instruction_) rfl)) (rj_e (ej_c (a := (1 : Int)) rfl))) (ej_bin o_ixD (rj_e (ej_bin o_ixD (rj_e (ej_v (i := 1) (a := lane_) rfl)) (rj_e (ej_c (a := (2 : Int)) rfl)))) (rj_e (ej_asI (ej_bin o_ixD (rj_e (ej_v (i := 0) (a := instruction_) rfl)) (rj_e (ej_c (a := (2 : Int)) rfl)))))))))) (bj_skip (bj_ifnf (ts_eq (ts_e (ej_bin o_eqD (rj_e (ej_v (i := 5) (a := kind_1) rfl)) (rj_e (ej_toD (ej_c (a := ([108, 111, 97, 100] : List Nat)) rfl)))))) (bj_ret (ej_eq (ej_some (ej_p2 (ej_bin o_ixD (rj_e (ej_v (i := 0) (a := instruction_) rfl)) (rj_e (ej_c (a := (1 : Int)) rfl))) (ej_toD (ej_v (i := 4) (a := word_) rfl)))))) (bj_skip (bj_ifnf (ts_eq (ts_e (ej_bin o_eqD (rj_e (ej_v (i := 5) (a := kind_1) rfl)) (rj_e (ej_toD (ej_c (a := ([99, 111, 108, 108, 101, 99, 116] : List Nat)) rfl)))))) (bj_ret (ej_eq (ej_some (ej_p2 (ej_bin o_ixD (rj_e (ej_v (i := 0) (a := instruction_) rfl)) (rj_e (ej_c (a := (2 : Int)) rfl))) (ej_toD (ej_v (i := 4) (a := word_) rfl)))))) (bj_skip (bj_ret (ej_eq (ej_c (v := .non) (a := (none : (Option (P2 D D)))) rfl)))))))))))))))))))))))))
/-! ### behind -/
def N_behind (code_ : D) (launch_ : D) (thread_ : Int) (lane_ : D) (word_ : Int) : N D :=
  ((D.as3 lane_).bind fun (u1 : (P3 D D D)) => (((D.ix code_ (3 : Int)).bind fun t2 => ((D.asI u1.a).bind fun t3 => (D.ix t2 t3))).bind fun (instruction_4 : D) => ((D.ix instruction_4 (0 : Int)).bind fun (kind_5 : D) => ((eqD kind_5 (toD ([101, 120, 105, 116] : List Nat))).bind fun k6 => if k6 = true then ((N.ok lane_).bind fun t7 => N.ok t7) else (((D.asI u1.a).bind fun t8 => (N.ok (t8 + (1 : Int)))).bind fun (following_9 : Int) => (((eqD kind_5 (toD ([106, 117, 109, 112] : List Nat))).bind fun k10 => if k10 = true then (((D.ix instruction_4 (1 : Int)).bind fun t13 => (D.asI t13)).bind fun (following_14 : Int) => (N.ok following_14)) else (((eqD kind_5 (toD ([98, 114, 97, 110, 99, 104] : List Nat))).bind fun t20 => (if t20 = true then ((((D.ix instruction_4 (1 : Int)).bind fun t17 => (D.asI t17)).bind fun t18 => (D.ix u1.b t18)).bind fun t19 => ((eqD t19 (toD (0 : Int))).bind fun k => N.ok (!k))) else N.ok false)).bind fun k21 => if k21 = true then (((D.ix instruction_4 (2 : Int)).bind fun t22 => (D.asI t22)).bind fun (following_23 : Int) => (N.ok following_23)) else (N.ok following_9))).bind fun (following_24 : Int) => ((eqD kind_5 (toD ([107, 101, 101, 112] : List Nat))).bind fun k25 => if k25 = true then ((((((((D.asT u1.c).bind fun t29 => (((D.ix instruction_4 (1 : Int)).bind fun t26 => (D.asI t26)).bind fun t30 => ((((D.ix instruction_4 (2 : Int)).bind fun t27 => (D.asI t27)).bind fun t28 => (D.ix u1.b t28)).bind fun t31 => (noE (N_changed t29 t30 t31))))).bind fun t32 => (N.ok (toD t32))).bind fun t33 => (N.ok (t33 :: ([] : List D)))).bind fun t34 => (N.ok (u1.b :: t34))).bind fun t35 => (N.ok ((toD following_24) :: t35))).bind fun t36 => ((szN t36).bind fun t37 => (N.ok (D.tup t37)))).bind fun t38 => N.ok t38) else ((noE (N_result instruction_4 lane_ launch_ thread_ word_)).bind fun (found_39 : (Option (P2 D D))) => (((N.ok (Option.isSome found_39)).bind fun k40 => if k40 = true then ((((D.asT u1.b).bind fun t45 => ((((unO found_39).bind fun t42 => (N.ok (P2.a t42))).bind fun t43 => (D.asI t43)).bind fun t46 => (((unO found_39).bind fun t44 => (N.ok (P2.b t44))).bind fun t47 => (noE (N_changed t45 t46 t47))))).bind fun t48 => (N.ok (toD t48))).bind fun (words_49 : D) => (N.ok words_49)) else (N.ok u1.b)).bind fun (words_50 : D) => (((szN ((toD following_24) :: (words_50 :: (u1.c :: ([] : List D))))).bind fun t51 => (N.ok (D.tup t51))).bind fun t52 => N.ok t52))))))))))
theorem d_behind : D5 G_behind N_behind := fun h v_0 v_1 v_2 v_3 v_4 code_ launch_ thread_ lane_ word_ e_0 e_1 e_2 e_3 e_4 => by
  cases e_0; cases e_1; cases e_2; cases e_3; cases e_4; exact sim_def rfl (bj_asg tgt_p3 (ej_eq (ej_as as3_e as3_x (ej_v (i := 3) (a := lane_) rfl)) ) (fun u1 => (bj_set (i := 8) (ej_eq (ej_bin o_ixD (rj_e (ej_bin o_ixD (rj_e (ej_v (i := 0) (a := code_) rfl)) (rj_e (ej_c (a := (3 : Int)) rfl)))) (rj_e (ej_asI (ej_v (i := 5) (a := u1.a) rfl)))) ) (fun instruction_4 => (bj_set (i := 9) (ej_eq (ej_bin o_ixD (rj_e (ej_v (i := 8) (a := instruction_4) rfl)) (rj_e (ej_c (a := (0 : Int)) rfl))) ) (fun kind_5 => (bj_ifnf (ts_eq (ts_e (ej_bin o_eqD (rj_e (ej_v (i := 9) (a := kind_5) rfl)) (rj_e (ej_toD (ej_c (a := ([101, 120, 105, 116] : List Nat)) rfl)))))) (bj_ret (ej_eq (ej_v (i := 3) (a := lane_) rfl))) (bj_skip (bj_set (i := 10) (ej_eq (ej_bin o_addI (rj_e (ej_asI (ej_v (i := 5) (a := u1.a) rfl))) (rj_e (ej_c (a := (1 : Int)) rfl))) ) (fun following_9 => (bj_part (sp := (fun (g11 : Int) s os => ∃ (z12 : Option Val), s = [some (enc (code_ : D)), some (enc (launch_ : D)), some (enc (thread_ : Int)), some (enc (lane_ : D)), some (enc (word_ : Int)), some (enc (u1.a : D)), some (enc (u1.b : D)), some (enc (u1.c : D)), some (enc (instruction_4 : D)), some (enc (kind_5 : D)), some (enc (g11)), z12] ∧ os = [])) (bj_ite (ts_eq (ts_e (ej_bin o_eqD (rj_e (ej_v (i := 9) (a := kind_5) rfl)) (rj_e (ej_toD (ej_c (a := ([106, 117, 109, 112] : List Nat)) rfl)))))) (bj_one (bj_set (i := 10) (ej_eq (ej_asI (ej_bin o_ixD (rj_e (ej_v (i := 8) (a := instruction_4) rfl)) (rj_e (ej_c (a := (1 : Int)) rfl)))) ) (fun following_14 => (bj_part_endC 0 ⟨_, rfl, rfl⟩)))) (bj_ite (ts_eq (ts_and (ts_e (ej_bin o_eqD (rj_e (ej_v (i := 9) (a := kind_5) rfl)) (rj_e (ej_toD (ej_c (a := ([98, 114, 97, 110, 99, 104] : List Nat)) rfl))))) (ts_e (ej_bin o_neD (rj_e (ej_bin o_ixD (rj_e (ej_v (i := 6) (a := u1.b) rfl)) (rj_e (ej_asI (ej_bin o_ixD (rj_e (ej_v (i := 8) (a := instruction_4) rfl)) (rj_e (ej_c (a := (1 : Int)) rfl))))))) (rj_e (ej_toD (ej_c (a := (0 : Int)) rfl))))))) (bj_one (bj_set (i := 10) (ej_eq (ej_asI (ej_bin o_ixD (rj_e (ej_v (i := 8) (a := instruction_4) rfl)) (rj_e (ej_c (a := (2 : Int)) rfl)))) ) (fun following_23 => (bj_part_endC 0 ⟨_, rfl, rfl⟩)))) (bj_part_endC 0 ⟨_, rfl, rfl⟩))) (fun following_24 s os hs => by obtain ⟨z12, rfl, rfl⟩ := hs; exact (bj_ifnf (ts_eq (ts_e (ej_bin o_eqD (rj_e (ej_v (i := 9) (a := kind_5) rfl)) (rj_e (ej_toD (ej_c (a := ([107, 101, 101, 112] : List Nat)) rfl)))))) (bj_ret (ej_eq (ej_tupD (ls_cons (ej_toD (ej_v (i := 10) (a := following_24) rfl)) (ls_cons (ej_v (i := 6) (a := u1.b) rfl) (ls_cons (ej_toD (ej_d3 d_changed (vj_e (ej_asT (ej_v (i := 7) (a := u1.c) rfl))) (vj_e (ej_asI (ej_bin o_ixD (rj_e (ej_v (i := 8) (a := instruction_4) rfl)) (rj_e (ej_c (a := (1 : Int)) rfl))))) (vj_e (ej_bin o_ixD (rj_e (ej_v (i := 6) (a := u1.b) rfl)) (rj_e (ej_asI (ej_bin o_ixD (rj_e (ej_v (i := 8) (a := instruction_4) rfl)) (rj_e (ej_c (a := (2 : Int)) rfl))))))))) ls_nil)))))) (bj_skip (bj_set (i := 11) (ej_eq (ej_d5 d_result (vj_e (ej_v (i := 8) (a := instruction_4) rfl)) (vj_e (ej_v (i := 3) (a := lane_) rfl)) (vj_e (ej_v (i := 1) (a := launch_) rfl)) (vj_e (ej_v (i := 2) (a := thread_) rfl)) (vj_e (ej_v (i := 4) (a := word_) rfl))) ) (fun found_39 => (bj_part (sp := (fun (g41 : D) s os => s = [some (enc (code_ : D)), some (enc (launch_ : D)), some (enc (thread_ : Int)), some (enc (lane_ : D)), some (enc (word_ : Int)), some (enc (u1.a : D)), some (enc (g41)), some (enc (u1.c : D)), some (enc (instruction_4 : D)), some (enc (kind_5 : D)), some (enc (following_24 : Int)), some (enc (found_39 : (Option (P2 D D))))] ∧ os = [])) (bj_ite (ts_eq (ts_e (ej_bin o_notN (rj_e (ej_v (i := 11) (a := found_39) rfl)) (rj_e (ej_c (v := .non) (a := ()) rfl))))) (bj_one (bj_set (i := 6) (ej_eq (ej_toD (ej_d3 d_changed (vj_e (ej_asT (ej_v (i := 6) (a := u1.b) rfl))) (vj_e (ej_asI (ej_p2_0 (ej_unO (ej_v (i := 11) (a := found_39) rfl))))) (vj_e (ej_p2_1 (ej_unO (ej_v (i := 11) (a := found_39) rfl)))))) ) (fun words_49 => (bj_part_endC 0 ⟨rfl, rfl⟩)))) (bj_part_endC 0 ⟨rfl, rfl⟩)) (fun words_50 s os hs => by obtain ⟨rfl, rfl⟩ := hs; exact (bj_ret (ej_eq (ej_tupD (ls_cons (ej_toD (ej_v (i := 10) (a := following_24) rfl)) (ls_cons (ej_v (i := 6) (a := words_50) rfl) (ls_cons (ej_v (i := 7) (a := u1.c) rfl) ls_nil))))))))))))))))))))))))
/-! ### law -/
def N_law (script_ : (List Int)) : N Bool :=
  ((noE (N_law_stream script_)).bind fun (s1 : Strm) => ((noE (N_law_code s1)).bind2 fun (code_4 : D) s3 => ((noE (N_law_launch s3 code_4)).bind2 fun (launch_6 : (P4 Int Int (Tu Int) (Tu (Tu Int)))) s5 => ((((mulI (P4.a launch_6) (P4.b launch_6)).bind fun t168 => N.ok (t168, s5)).bind2 fun t169 s170 => (noE (N_law_draw s170 t169))).bind2 fun (number_8 : Int) s7 => ((noE (N_first_lane code_4)).bind fun (lane_9 : D) => ((((((((((szN ((0 : Int) :: ([] : List Int))).bind fun t10 => (N.ok (Tu.mk t10))).bind fun t11 => (mulT t11 (8 : Int))).bind fun t12 => (N.ok (toD t12))).bind fun t19 => ((((((szN ((0 : Int) :: ([] : List Int))).bind fun t13 => (N.ok (Tu.mk t13))).bind fun t15 => (((D.ix code_4 (2 : Int)).bind fun t14 => (D.asI t14)).bind fun t16 => (mulT t15 t16))).bind fun t17 => (N.ok (toD t17))).bind fun t18 => (N.ok (t18 :: ([] : List D)))).bind fun t20 => (N.ok (t19 :: t20)))).bind fun t21 => (N.ok ((toD (0 : Int)) :: t21))).bind fun t22 => ((szN t22).bind fun t23 => (N.ok (D.tup t23)))).bind fun t24 => (noE (N_law_same lane_9 t24))).bind fun t40 => (N.ok (!t40))).bind fun k41 => if k41 = true then ((N.ok false).bind fun t42 => N.ok t42) else ((range1N (25 : Int)).bind fun xs165 => (forC xs165 (s7, lane_9) (fun (x53 : Int) (g161 : (Strm × D)) => match g161 with | (stream_51, lane_52) => ((noE (N_law_request code_4 lane_52)).bind fun (asked_54 : D) => ((((noE (N_request code_4 lane_52)).bind fun t55 => (noE (N_law_same t55 asked_54))).bind fun t57 => (N.ok (!t57))).bind fun k58 => if k58 = true then (N.ok (Ctl.rt false)) else ((noE (N_law_word stream_51)).bind2 fun (word_60 : Int) s59 => ((noE (N_law_behind code_4 (toD launch_6) number_8 lane_52 word_60)).bind fun (due_61 : D) => ((((noE (N_behind code_4 (toD launch_6) number_8 lane_52 word_60)).bind fun t62 => (noE (N_law_same t62 due_61))).bind fun t64 => (N.ok (!t64))).bind fun k65 => if k65 = true then (N.ok (Ctl.rt false)) else (((((D.ix asked_54 (0 : Int)).bind fun t66 => (D.asS t66)).bind fun t67 => ((szN (([108, 111, 97, 100] : List Nat) :: (([99, 111, 108, 108, 101, 99, 116] : List Nat) :: ([] : List (List Nat))))).bind fun t68 => (N.ok (!(memB t67 t68))))).bind fun t74 => (if t74 = true then ((((if (decide (word_60 < (5 : Int))) = true then (N.ok (word_60 + (1 : Int))) else (N.ok (0 : Int))).bind fun t69 => (noE (N_behind code_4 (toD launch_6) number_8 lane_52 t69))).bind fun t70 => (noE (N_law_same t70 due_61))).bind fun t73 => (N.ok (!t73))) else N.ok false)).bind fun k75 => if k75 = true then (N.ok (Ctl.rt false)) else (((((D.ix code_4 (3 : Int)).bind fun t76 => (D.len t76)).bind fun t153 => N.ok (t153, s59)).bind2 fun t154 s155 => (noE (N_law_draw s155 t154))).bind2 fun (k_78 : Int) s77 => (((((((((range1N (8 : Int)).bind fun t100 => N.ok (t100, s77)).bind2 fun t101 s102 => (noE (lcS (fun (x79 : Int) => (N.ok true)) (fun (x79 : Int) (s80 : Strm) => (noE (N_law_word s80))) 0 t101 s102))).bind2 fun t103 s104 => (N.ok ((Tu.mk t103), s104))).bind2 fun t105 s106 => (N.ok ((toD t105), s106))).bind2 fun t107 s108 => (((((((((D.ix code_4 (2 : Int)).bind fun t81 => (D.asI t81)).bind fun t82 => (range1N t82)).bind fun t109 => N.ok (t109, s108)).bind2 fun t110 s111 => (noE (lcS (fun (x83 : Int) => (N.ok true)) (fun (x83 : Int) (s84 : Strm) => (noE (N_law_word s84))) 0 t110 s111))).bind2 fun t112 s113 => (N.ok ((Tu.mk t112), s113))).bind2 fun t114 s115 => (N.ok ((toD t114), s115))).bind2 fun t116 s117 => (N.ok ((t116 :: ([] : List D)), s117))).bind2 fun t118 s119 => (N.ok ((t107 :: t118), s119)))).bind2 fun t120 s121 => (N.ok (((toD k_78) :: t120), s121))).bind2 fun t122 s123 => (((szN t122).bind fun t124 => (N.ok (D.tup t124))).bind fun t125 => N.ok (t125, s123))).bind2 fun (drawn_86 : D) s85 => ((((noE (N_request code_4 drawn_86)).bind fun t87 => ((noE (N_law_request code_4 drawn_86)).bind fun t88 => (noE (N_law_same t87 t88)))).bind fun t91 => (N.ok (!t91))).bind fun k92 => if k92 = true then (N.ok (Ctl.rt false)) else ((((noE (N_behind code_4 (toD launch_6) number_8 drawn_86 word_60)).bind fun t93 => ((noE (N_law_behind code_4 (toD launch_6) number_8 drawn_86 word_60)).bind fun t94 => (noE (N_law_same t93 t94)))).bind fun t97 => (N.ok (!t97))).bind fun k98 => if k98 = true then (N.ok (Ctl.rt false)) else ((N.ok due_61).bind fun (lane_99 : D) => (N.ok (Ctl.nx (s85, lane_99)))))))))))))))).bind fun c167 => ctlK c167 (fun a => N.ok a) (fun g164 => match g164 with | (stream_162, lane_163) => ((N.ok true).bind fun t166 => N.ok t166)))))))))
theorem d_law : ∀ h (script_ : List Int), SimO (trunc M_law [.kl (script_.map enc)] h) (N_law script_) h := fun h script_ => by
  exact sim_def rfl (bs_newV (i := 1) (j := 0) (d_law_stream script_) rfl (fun v2 s1 => (bs_set (i := 2) (k := 0) (s := s1) (ma := (fun s176 => (noE (N_law_code s176)))) rfl (es_eq (es_s0 (i := 1) d_law_code rfl rfl )) (fun code_4 s3 => (bs_set (i := 3) (k := 0) (s := s3) (ma := (fun s175 => (noE (N_law_launch s175 code_4)))) rfl (es_eq (es_s1 (i := 1) d_law_launch rfl rfl (es_pure fun _ => (ej_v (i := 2) (a := code_4) rfl)))) (fun launch_6 s5 => (bs_set (i := 4) (k := 0) (s := s5) (ma := (fun s171 => (((mulI (P4.a launch_6) (P4.b launch_6)).bind fun t172 => N.ok (t172, s171)).bind2 fun t173 s174 => (noE (N_law_draw s174 t173))))) rfl (es_eq (es_s1 (i := 1) d_law_draw rfl rfl (es_pure fun _ => (ej_bin o_mulI (rj_e (ej_p4_0 (ej_v (i := 3) (a := launch_6) rfl))) (rj_e (ej_p4_1 (ej_v (i := 3) (a := launch_6) rfl))))))) (fun number_8 s7 => (bj_set (i := 5) (ej_eq (ej_d1 d_first_lane (vj_e (ej_v (i := 2) (a := code_4) rfl))) ) (fun lane_9 => (bj_ifnf (ts_eq (ts_not (ts_truB (ej_d2 d_law_same (vj_e (ej_v (i := 5) (a := lane_9) rfl)) (vj_e (ej_tupD (ls_cons (ej_toD (ej_c (a := (0 : Int)) rfl)) (ls_cons (ej_toD (ej_binE o_mulT (ej_tuN (ls_cons (ej_c (a := (0 : Int)) rfl) ls_nil)) (ej_c (a := (8 : Int)) rfl))) (ls_cons (ej_toD (ej_binE o_mulT (ej_tuN (ls_cons (ej_c (a := (0 : Int)) rfl) ls_nil)) (ej_asI (ej_bin o_ixD (rj_e (ej_v (i := 2) (a := code_4) rfl)) (rj_e (ej_c (a := (2 : Int)) rfl)))))) ls_nil))))))))) (bj_ret (ej_eq (ej_c (a := false) rfl))) (bj_skip (bj_forC (sp := (fun (g43 : (Strm × D)) s os => ∃ (z44 z45 z46 z47 z48 z49 z50 : Option Val), s = [some (Val.kl (List.map enc script_)), some v2, some (enc (code_4 : D)), some (enc (launch_6 : (P4 Int Int (Tu Int) (Tu (Tu Int))))), some (enc (number_8 : Int)), some (enc (g43.2)), z44, z45, z46, z47, z48, z49, z50] ∧ os = [OI.of rpZ v2 (g43.1)])) (nb := (fun (x53 : Int) (g161 : (Strm × D)) => match g161 with | (stream_51, lane_52) => ((noE (N_law_request code_4 lane_52)).bind fun (asked_54 : D) => ((((noE (N_request code_4 lane_52)).bind fun t55 => (noE (N_law_same t55 asked_54))).bind fun t57 => (N.ok (!t57))).bind fun k58 => if k58 = true then (N.ok (Ctl.rt false)) else ((noE (N_law_word stream_51)).bind2 fun (word_60 : Int) s59 => ((noE (N_law_behind code_4 (toD launch_6) number_8 lane_52 word_60)).bind fun (due_61 : D) => ((((noE (N_behind code_4 (toD launch_6) number_8 lane_52 word_60)).bind fun t62 => (noE (N_law_same t62 due_61))).bind fun t64 => (N.ok (!t64))).bind fun k65 => if k65 = true then (N.ok (Ctl.rt false)) else (((((D.ix asked_54 (0 : Int)).bind fun t66 => (D.asS t66)).bind fun t67 => ((szN (([108, 111, 97, 100] : List Nat) :: (([99, 111, 108, 108, 101, 99, 116] : List Nat) :: ([] : List (List Nat))))).bind fun t68 => (N.ok (!(memB t67 t68))))).bind fun t74 => (if t74 = true then ((((if (decide (word_60 < (5 : Int))) = true then (N.ok (word_60 + (1 : Int))) else (N.ok (0 : Int))).bind fun t69 => (noE (N_behind code_4 (toD launch_6) number_8 lane_52 t69))).bind fun t70 => (noE (N_law_same t70 due_61))).bind fun t73 => (N.ok (!t73))) else N.ok false)).bind fun k75 => if k75 = true then (N.ok (Ctl.rt false)) else (((((D.ix code_4 (3 : Int)).bind fun t76 => (D.len t76)).bind fun t153 => N.ok (t153, s59)).bind2 fun t154 s155 => (noE (N_law_draw s155 t154))).bind2 fun (k_78 : Int) s77 => (((((((((range1N (8 : Int)).bind fun t100 => N.ok (t100, s77)).bind2 fun t101 s102 => (noE (lcS (fun (x79 : Int) => (N.ok true)) (fun (x79 : Int) (s80 : Strm) => (noE (N_law_word s80))) 0 t101 s102))).bind2 fun t103 s104 => (N.ok ((Tu.mk t103), s104))).bind2 fun t105 s106 => (N.ok ((toD t105), s106))).bind2 fun t107 s108 => (((((((((D.ix code_4 (2 : Int)).bind fun t81 => (D.asI t81)).bind fun t82 => (range1N t82)).bind fun t109 => N.ok (t109, s108)).bind2 fun t110 s111 => (noE (lcS (fun (x83 : Int) => (N.ok true)) (fun (x83 : Int) (s84 : Strm) => (noE (N_law_word s84))) 0 t110 s111))).bind2 fun t112 s113 => (N.ok ((Tu.mk t112), s113))).bind2 fun t114 s115 => (N.ok ((toD t114), s115))).bind2 fun t116 s117 => (N.ok ((t116 :: ([] : List D)), s117))).bind2 fun t118 s119 => (N.ok ((t107 :: t118), s119)))).bind2 fun t120 s121 => (N.ok (((toD k_78) :: t120), s121))).bind2 fun t122 s123 => (((szN t122).bind fun t124 => (N.ok (D.tup t124))).bind fun t125 => N.ok (t125, s123))).bind2 fun (drawn_86 : D) s85 => ((((noE (N_request code_4 drawn_86)).bind fun t87 => ((noE (N_law_request code_4 drawn_86)).bind fun t88 => (noE (N_law_same t87 t88)))).bind fun t91 => (N.ok (!t91))).bind fun k92 => if k92 = true then (N.ok (Ctl.rt false)) else ((((noE (N_behind code_4 (toD launch_6) number_8 drawn_86 word_60)).bind fun t93 => ((noE (N_law_behind code_4 (toD launch_6) number_8 drawn_86 word_60)).bind fun t94 => (noE (N_law_same t93 t94)))).bind fun t97 => (N.ok (!t97))).bind fun k98 => if k98 = true then (N.ok (Ctl.rt false)) else ((N.ok due_61).bind fun (lane_99 : D) => (N.ok (Ctl.nx (s85, lane_99)))))))))))))))) (g0 := (s7, lane_9)) (k := (fun g164 => match g164 with | (stream_162, lane_163) => ((N.ok true).bind fun t166 => N.ok t166))) (ij_eq (ij_range1 (ej_c (a := (25 : Int)) rfl))) tgt_nm ⟨_, _, _, _, _, _, _, rfl, rfl⟩ (fun x53 g161 s os hs => by obtain ⟨stream_51, lane_52⟩ := g161; obtain ⟨z44, z45, z46, z47, z48, z49, z50, rfl, rfl⟩ := hs; exact (bj_set (i := 7) (ej_eq (ej_d2 d_law_request (vj_e (ej_v (i := 2) (a := code_4) rfl)) (vj_e (ej_v (i := 5) (a := lane_52) rfl))) ) (fun asked_54 => (bj_ifnf (ts_eq (ts_not (ts_truB (ej_d2 d_law_same (vj_e (ej_d2 d_request (vj_e (ej_v (i := 2) (a := code_4) rfl)) (vj_e (ej_v (i := 5) (a := lane_52) rfl)))) (vj_e (ej_v (i := 7) (a := asked_54) rfl)))))) (bj_eq (bj_ret (ej_eq (n' := (N.ok false)) (ej_c (a := false) rfl))) rfl) (bj_skip (bs_set (i := 8) (k := 0) (s := stream_51) (ma := (fun s160 => (noE (N_law_word s160)))) rfl (es_eq (es_s0 (i := 1) d_law_word rfl rfl )) (fun word_60 s59 => (bj_set (i := 9) (ej_eq (ej_d5 d_law_behind (vj_e (ej_v (i := 2) (a := code_4) rfl)) (vj_e (ej_toD (ej_v (i := 3) (a := launch_6) rfl))) (vj_e (ej_v (i := 4) (a := number_8) rfl)) (vj_e (ej_v (i := 5) (a := lane_52) rfl)) (vj_e (ej_v (i := 8) (a := word_60) rfl))) ) (fun due_61 => (bj_ifnf (ts_eq (ts_not (ts_truB (ej_d2 d_law_same (vj_e (ej_d5 d_behind (vj_e (ej_v (i := 2) (a := code_4) rfl)) (vj_e (ej_toD (ej_v (i := 3) (a := launch_6) rfl))) (vj_e (ej_v (i := 4) (a := number_8) rfl)) (vj_e (ej_v (i := 5) (a := lane_52) rfl)) (vj_e (ej_v (i := 8) (a := word_60) rfl)))) (vj_e (ej_v (i := 9) (a := due_61) rfl)))))) (bj_eq (bj_ret (ej_eq (n' := (N.ok false)) (ej_c (a := false) rfl))) rfl) (bj_skip (bj_ifnf (ts_eq (ts_and (ts_e (ej_bin o_notInL0 (rj_e (ej_asS (ej_bin o_ixD (rj_e (ej_v (i := 7) (a := asked_54) rfl)) (rj_e (ej_c (a := (0 : Int)) rfl))))) (rj_e (ej_lst (ls_cons (ej_c (a := ([108, 111, 97, 100] : List Nat)) rfl) (ls_cons (ej_c (a := ([99, 111, 108, 108, 101, 99, 116] : List Nat)) rfl) ls_nil)))))) (ts_not (ts_truB (ej_d2 d_law_same (vj_e (ej_d5 d_behind (vj_e (ej_v (i := 2) (a := code_4) rfl)) (vj_e (ej_toD (ej_v (i := 3) (a := launch_6) rfl))) (vj_e (ej_v (i := 4) (a := number_8) rfl)) (vj_e (ej_v (i := 5) (a := lane_52) rfl)) (vj_e (ej_if (ts_e (ej_bin o_ltI (rj_e (ej_v (i := 8) (a := word_60) rfl)) (rj_e (ej_c (a := (5 : Int)) rfl)))) (ej_bin o_addI (rj_e (ej_v (i := 8) (a := word_60) rfl)) (rj_e (ej_c (a := (1 : Int)) rfl))) (ej_c (a := (0 : Int)) rfl))))) (vj_e (ej_v (i := 9) (a := due_61) rfl))))))) (bj_eq (bj_ret (ej_eq (n' := (N.ok false)) (ej_c (a := false) rfl))) rfl) (bj_skip (bs_set (i := 10) (k := 0) (s := s59) (ma := (fun s156 => ((((D.ix code_4 (3 : Int)).bind fun t76 => (D.len t76)).bind fun t157 => N.ok (t157, s156)).bind2 fun t158 s159 => (noE (N_law_draw s159 t158))))) rfl (es_eq (es_s1 (i := 1) d_law_draw rfl rfl (es_pure fun _ => (ej_b1 b_lenD (rj_e (ej_bin o_ixD (rj_e (ej_v (i := 2) (a := code_4) rfl)) (rj_e (ej_c (a := (3 : Int)) rfl)))))))) (fun k_78 s77 => (bs_set (i := 11) (k := 0) (s := s77) (ma := (fun s126 => ((((((((range1N (8 : Int)).bind fun t127 => N.ok (t127, s126)).bind2 fun t128 s129 => (noE (lcS (fun (x79 : Int) => (N.ok true)) (fun (x79 : Int) (s80 : Strm) => (noE (N_law_word s80))) 0 t128 s129))).bind2 fun t130 s131 => (N.ok ((Tu.mk t130), s131))).bind2 fun t132 s133 => (N.ok ((toD t132), s133))).bind2 fun t134 s135 => (((((((((D.ix code_4 (2 : Int)).bind fun t81 => (D.asI t81)).bind fun t82 => (range1N t82)).bind fun t136 => N.ok (t136, s135)).bind2 fun t137 s138 => (noE (lcS (fun (x83 : Int) => (N.ok true)) (fun (x83 : Int) (s84 : Strm) => (noE (N_law_word s84))) 0 t137 s138))).bind2 fun t139 s140 => (N.ok ((Tu.mk t139), s140))).bind2 fun t141 s142 => (N.ok ((toD t141), s142))).bind2 fun t143 s144 => (N.ok ((t143 :: ([] : List D)), s144))).bind2 fun t145 s146 => (N.ok ((t134 :: t145), s146)))).bind2 fun t147 s148 => (N.ok (((toD k_78) :: t147), s148))).bind2 fun t149 s150 => (((szN t149).bind fun t151 => (N.ok (D.tup t151))).bind fun t152 => N.ok (t152, s150))))) rfl (es_eq (es_tupD (lS_cons (es_pure fun _ => (ej_toD (ej_v (i := 10) (a := k_78) rfl))) (lS_cons (es_toD (es_b1 (e1 b_tupL) (es_lc (t := (fun (x79 : Int) => (N.ok true))) (ff := (fun (x79 : Int) (s80 : Strm) => (noE (N_law_word s80)))) (is_pure fun _ => (ij_range1 (ej_c (a := (8 : Int)) rfl))) tgt_nm (fun x79 _ => ts_true) (fun x79 => es_eq (es_s0 (i := 1) d_law_word rfl rfl ))))) (lS_cons (es_toD (es_b1 (e1 b_tupL) (es_lc (t := (fun (x83 : Int) => (N.ok true))) (ff := (fun (x83 : Int) (s84 : Strm) => (noE (N_law_word s84)))) (is_pure fun _ => (ij_range1 (ej_asI (ej_bin o_ixD (rj_e (ej_v (i := 2) (a := code_4) rfl)) (rj_e (ej_c (a := (2 : Int)) rfl)))))) tgt_nm (fun x83 _ => ts_true) (fun x83 => es_eq (es_s0 (i := 1) d_law_word rfl rfl ))))) lS_nil))))) (fun drawn_86 s85 => (bj_ifnf (ts_eq (ts_not (ts_truB (ej_d2 d_law_same (vj_e (ej_d2 d_request (vj_e (ej_v (i := 2) (a := code_4) rfl)) (vj_e (ej_v (i := 11) (a := drawn_86) rfl)))) (vj_e (ej_d2 d_law_request (vj_e (ej_v (i := 2) (a := code_4) rfl)) (vj_e (ej_v (i := 11) (a := drawn_86) rfl)))))))) (bj_eq (bj_ret (ej_eq (n' := (N.ok false)) (ej_c (a := false) rfl))) rfl) (bj_skip (bj_ifnf (ts_eq (ts_not (ts_truB (ej_d2 d_law_same (vj_e (ej_d5 d_behind (vj_e (ej_v (i := 2) (a := code_4) rfl)) (vj_e (ej_toD (ej_v (i := 3) (a := launch_6) rfl))) (vj_e (ej_v (i := 4) (a := number_8) rfl)) (vj_e (ej_v (i := 11) (a := drawn_86) rfl)) (vj_e (ej_v (i := 8) (a := word_60) rfl)))) (vj_e (ej_d5 d_law_behind (vj_e (ej_v (i := 2) (a := code_4) rfl)) (vj_e (ej_toD (ej_v (i := 3) (a := launch_6) rfl))) (vj_e (ej_v (i := 4) (a := number_8) rfl)) (vj_e (ej_v (i := 11) (a := drawn_86) rfl)) (vj_e (ej_v (i := 8) (a := word_60) rfl)))))))) (bj_eq (bj_ret (ej_eq (n' := (N.ok false)) (ej_c (a := false) rfl))) rfl) (bj_skip (bj_one (bj_set (i := 5) (ej_eq (ej_v (i := 9) (a := due_61) rfl) ) (fun lane_99 => (bj_turn_endC 1 ⟨_, _, _, _, _, _, _, rfl, rfl⟩))))))))))))))))))))))))) (fun g164 s os hs => by obtain ⟨stream_162, lane_163⟩ := g164; obtain ⟨z44, z45, z46, z47, z48, z49, z50, rfl, rfl⟩ := hs; exact (bj_ret (ej_eq (ej_c (a := true) rfl)))))))))))))))))
end
end Lw

set_option Elab.async false
set_option linter.all false
set_option maxRecDepth 100000
set_option maxHeartbeats 4000000
/-! K15a: machine code and lanes as data; what is asked, what comes behind -/
namespace Lw
open Sx Wd Nx
open Nx.Enc (enc arg red)
open Nx.ToD (toD)
noncomputable section
inductive Ins where
  | word (d : Nat) (w : Int) | param (d k : Nat) | special (d : Nat) (s : List Nat) | copy (d r : Nat) | un (op : List Nat) (d r : Nat) | bin (op : List Nat) (d r s : Nat)
  | get (d l : Nat) | keep (l r : Nat) | load (d a r : Nat) | store (a r s : Nat) | atomic (op : List Nat) (a r s : Nat) | barrier (k : Nat) | collect (op : List Nat) (d r k : Nat)
  | exit | jump (t : Nat) | branch (r t e : Nat)
abbrev i_word : List Nat := [119, 111, 114, 100]
abbrev i_param : List Nat := [112, 97, 114, 97, 109]
abbrev i_special : List Nat := [115, 112, 101, 99, 105, 97, 108]
abbrev i_copy : List Nat := [99, 111, 112, 121]
abbrev i_unary : List Nat := [117, 110, 97, 114, 121]
abbrev i_binary : List Nat := [98, 105, 110, 97, 114, 121]
abbrev i_get : List Nat := [103, 101, 116]
abbrev i_keep : List Nat := [107, 101, 101, 112]
abbrev i_load : List Nat := [108, 111, 97, 100]
abbrev i_store : List Nat := [115, 116, 111, 114, 101]
abbrev i_atomic : List Nat := [97, 116, 111, 109, 105, 99]
abbrev i_barrier : List Nat := [98, 97, 114, 114, 105, 101, 114]
abbrev i_collect : List Nat := [99, 111, 108, 108, 101, 99, 116]
abbrev i_exit : List Nat := [101, 120, 105, 116]
abbrev i_jump : List Nat := [106, 117, 109, 112]
abbrev i_branch : List Nat := [98, 114, 97, 110, 99, 104]
abbrev i_none : List Nat := [110, 111, 110, 101]
abbrev s_tid : List Nat := [116, 105, 100]
abbrev s_bid : List Nat := [98, 105, 100]
abbrev s_dim : List Nat := [100, 105, 109]
abbrev s_grid : List Nat := [103, 114, 105, 100]
def SPEC : List (List Nat) := [s_tid, s_bid, s_dim, s_grid]
def insD : Ins → D
  | .word d w => .tup [.str i_word, .int d, .int w]
  | .param d k => .tup [.str i_param, .int d, .int k]
  | .special d s => .tup [.str i_special, .int d, .str s]
  | .copy d r => .tup [.str i_copy, .int d, .int r]
  | .un op d r => .tup [.str i_unary, .str op, .int d, .int r]
  | .bin op d r s => .tup [.str i_binary, .str op, .int d, .int r, .int s]
  | .get d l => .tup [.str i_get, .int d, .int l]
  | .keep l r => .tup [.str i_keep, .int l, .int r]
  | .load d a r => .tup [.str i_load, .int d, .int a, .int r]
  | .store a r s => .tup [.str i_store, .int a, .int r, .int s]
  | .atomic op a r s => .tup [.str i_atomic, .str op, .int a, .int r, .int s]
  | .barrier k => .tup [.str i_barrier, .int k]
  | .collect op d r k => .tup [.str i_collect, .str op, .int d, .int r, .int k]
  | .exit => .tup [.str i_exit]
  | .jump t => .tup [.str i_jump, .int t]
  | .branch r t e => .tup [.str i_branch, .int r, .int t, .int e]
structure Code where
  ps : D
  sh : D
  loc : Nat
  rows : List Ins
def codeD (c : Code) : D := .tup [c.ps, c.sh, .int c.loc, .tup (c.rows.map insD)]
structure Lane where
  pc : Nat
  ws : List Int
  cs : List Int
def iD (xs : List Int) : List D := xs.map D.int
def laneD (l : Lane) : D := .tup [.int l.pc, .tup (iD l.ws), .tup (iD l.cs)]
def launchD (g b : Nat) (as : List Int) (bs : D) : D := .tup [.int g, .int b, .tup (iD as), bs]
def wd (l : Lane) (r : Nat) : Int := l.ws.getD r 0
def cd (l : Lane) (r : Nat) : Int := l.cs.getD r 0
def ad (as : List Int) (r : Nat) : Int := as.getD r 0
/-- registers, local cells, places are there; words are words -/
def Ins.ok (as : List Int) (n loc many : Nat) : Ins → Prop
  | .word d w => d < n ∧ isW w
  | .param d k => d < n ∧ k < as.length
  | .special d s => d < n ∧ s ∈ SPEC
  | .copy d r => d < n ∧ r < n
  | .un op d r => d < n ∧ r < n ∧ op ∈ UNS
  | .bin op d r s => d < n ∧ r < n ∧ s < n ∧ op ∈ BINS
  | .get d l => d < n ∧ l < loc
  | .keep l r => l < loc ∧ r < n
  | .load d _ r => d < n ∧ r < n
  | .store _ r s => r < n ∧ s < n
  | .atomic _ _ r s => r < n ∧ s < n
  | .barrier _ => True
  | .collect _ d r _ => d < n ∧ r < n
  | .exit => True
  | .jump t => t < many
  | .branch r t _ => r < n ∧ t < many
def reqD (l : Lane) : Ins → D
  | .load _ a r => .tup [.str i_load, .int a, .int (wd l r)]
  | .store a r s => .tup [.str i_store, .int a, .int (wd l r), .int (wd l s)]
  | .atomic op a r s => .tup [.str i_atomic, .str op, .int a, .int (wd l r), .int (wd l s)]
  | .barrier k => .tup [.str i_barrier, .int k]
  | .collect op _ r k => .tup [.str i_collect, .str op, .int (wd l r), .int k]
  | .exit => .tup [.str i_exit]
  | _ => .tup [.str i_none]
def spV (s : List Nat) (n g b : Nat) : Int := if s = s_tid then (n : Int) % b else if s = s_bid then (n : Int) / b else if s = s_dim then b else g
/-- the register that an instruction writes, and the word -/
def resW (l : Lane) (n g b : Nat) (as : List Int) (w : Int) : Ins → Option (Nat × Int)
  | .word d v => some (d, v)
  | .param d k => some (d, ad as k)
  | .special d s => some (d, spV s n g b)
  | .copy d r => some (d, wd l r)
  | .un op d r => some (d, unW op (wd l r))
  | .bin op d r s => some (d, binW op (wd l r) (wd l s))
  | .get d k => some (d, cd l k)
  | .load d _ _ => some (d, w)
  | .collect _ d _ _ => some (d, w)
  | _ => none
def resL (l : Lane) : Option (Nat × Int) → Lane
  | some p => ⟨l.pc + 1, l.ws.set p.1 p.2, l.cs⟩
  | none => ⟨l.pc + 1, l.ws, l.cs⟩
/-- the lane behind an instruction -/
def behL (l : Lane) (n g b : Nat) (as : List Int) (w : Int) : Ins → Lane
  | .exit => l
  | .jump t => ⟨t, l.ws, l.cs⟩
  | .branch r t _ => ⟨if wd l r ≠ 0 then t else l.pc + 1, l.ws, l.cs⟩
  | .keep k r => ⟨l.pc + 1, l.ws, l.cs.set k (wd l r)⟩
  | i => resL l (resW l n g b as w i)
theorem ix_iD {xs : List Int} {r : Nat} (hr : r < xs.length) : ixN (iD xs) (r : Int) = .ok (.int (xs.getD r 0)) := by
  unfold iD
  rw [ixN_of (by rw [List.length_map]; exact hr), List.getElem_map, List.getD_eq_getElem?_getD, List.getElem?_eq_getElem hr]
  rfl
theorem ix_rows {c : Code} {k : Nat} (hk : k < c.rows.length) : ixN (c.rows.map insD) (k : Int) = .ok (insD c.rows[k]) := by
  rw [ixN_of (by rw [List.length_map]; exact hk), List.getElem_map]
theorem request_eq {c : Code} {l : Lane} {as : List Int} (hk : l.pc < c.rows.length) (ok : c.rows[l.pc].ok as l.ws.length l.cs.length c.rows.length) : N_request (codeD c) (laneD l) = .ok (reqD l c.rows[l.pc]) := by
  have e1 := ix_rows hk
  have e2 := fun r => ix_iD (xs := l.ws) (r := r)
  generalize c.rows[l.pc] = i at e1 ok
  cases i <;> simp only [Ins.ok] at ok <;> simp [N_request, codeD, laneD, e1, e2, ok, insD, reqD, wd]
theorem law_request_eq {c : Code} {l : Lane} {as : List Int} (hk : l.pc < c.rows.length) (ok : c.rows[l.pc].ok as l.ws.length l.cs.length c.rows.length) : N_law_request (codeD c) (laneD l) = .ok (reqD l c.rows[l.pc]) := by
  have e1 := ix_rows hk
  have e2 := fun r => ix_iD (xs := l.ws) (r := r)
  generalize c.rows[l.pc] = i at e1 ok
  cases i <;> simp only [Ins.ok] at ok <;> simp [N_law_request, codeD, laneD, e1, e2, ok, insD, reqD, wd]
theorem special_eq {s : List Nat} {n g b : Nat} {as : List Int} {bs : D} (hs : s ∈ SPEC) (hb : 0 < b) (hb2 : b < 1000) : N_special (.str s) (n : Int) (launchD g b as bs) = .ok (spV s n g b) := by
  have b1 : (0 : Int) < b := by omega
  have b2 : (0 : Int) < b ∧ (b : Int) < 1000000000000 := by omega
  simp only [SPEC, List.mem_cons, List.not_mem_nil, or_false] at hs
  rcases hs with rfl | rfl | rfl | rfl <;> simp [N_special, launchD, spV, modI_of b1, divI_of b2]
theorem cut_to {α : Type} {xs : List α} {k : Nat} (hk : k < xs.length) : cutT ⟨xs⟩ none (some (k : Int)) = .ok ⟨xs.take k⟩ := by
  unfold cutT
  rw [if_neg (by rw [slB_nat]; show ¬(_ ∧ _); simp only; omega)]
  unfold cutL
  rw [slB_nat]
  show N.ok (Tu.mk ((xs.drop 0).take (min k xs.length - 0))) = _
  rw [List.drop_zero, Nat.sub_zero, Nat.min_eq_left (Nat.le_of_lt hk)]
theorem cut_from {α : Type} {xs : List α} {k : Nat} (hk : k < xs.length) : cutT ⟨xs⟩ (some ((k : Int) + 1)) none = .ok ⟨xs.drop (k + 1)⟩ := by
  have e : ((k : Int) + 1) = ((k + 1 : Nat) : Int) := by omega
  rw [e]
  unfold cutT
  rw [if_neg (by rw [slB_nat]; simp only; omega)]
  unfold cutL
  rw [slB_nat, Nat.min_eq_left hk]
  show N.ok (Tu.mk ((xs.drop (k + 1)).take (xs.length - (k + 1)))) = _
  rw [List.take_of_length_le (by rw [List.length_drop]; exact Nat.le_refl _)]
theorem set_cut {α : Type} : ∀ (xs : List α) (k : Nat) (v : α), k < xs.length → xs.take k ++ [v] ++ xs.drop (k + 1) = xs.set k v
  | x :: xs, 0, v, _ => rfl
  | x :: xs, k + 1, v, h => by
    show x :: (xs.take k ++ [v] ++ xs.drop (k + 1)) = x :: xs.set k v
    rw [set_cut xs k v (Nat.lt_of_succ_lt_succ h)]
theorem changed_eq {xs : List D} {k : Nat} {w : D} (hk : k < xs.length) (hl : xs.length ≤ 1000000) : N_changed ⟨xs⟩ (k : Int) w = .ok ⟨xs.set k w⟩ := by
  have e := set_cut xs k w hk
  have l1 : (xs.take k ++ [w]).length ≤ 16777216 := by rw [List.length_append, List.length_take, List.length_singleton]; omega
  have l2 : (xs.take k ++ [w] ++ xs.drop (k + 1)).length ≤ 16777216 := by rw [e, List.length_set]; omega
  unfold N_changed
  simp only [cut_to hk, cut_from hk, N.ok_bind, szN_1, tuN, szN_of l1, szN_of l2]
  rw [e]
theorem wd_w {l : Lane} (h : ∀ w ∈ l.ws, isW w) (r : Nat) : isW (wd l r) := by
  unfold wd
  rw [List.getD_eq_getElem?_getD]
  cases e : l.ws[r]? with
  | none => exact ⟨by decide, by decide⟩
  | some x => exact h x (List.mem_of_getElem? e)
def resO : Option (Nat × Int) → Option (P2 D D)
  | some p => some ⟨.int p.1, .int p.2⟩
  | none => none
structure Good (c : Code) (l : Lane) (as : List Int) (b : Nat) : Prop where
  pc : l.pc < c.rows.length
  ok : ∀ i ∈ c.rows, i.ok as l.ws.length l.cs.length c.rows.length
  ww : ∀ w ∈ l.ws, isW w
  cw : ∀ w ∈ l.cs, isW w
  b0 : 0 < b
  b1 : b < 1000
  lw : l.ws.length ≤ 1000
  lc : l.cs.length ≤ 1000
  lr : c.rows.length ≤ 1000
theorem result_eq {l : Lane} {i : Ins} {n g b many : Nat} {as : List Int} {bs : D} {w : Int} (ok : i.ok as l.ws.length l.cs.length many) (hw : ∀ w ∈ l.ws, isW w) (hb : 0 < b) (hb2 : b < 1000) :
    N_result (insD i) (laneD l) (launchD g b as bs) (n : Int) w = .ok (resO (resW l n g b as w i)) := by
  have e2 : ∀ r, r < l.ws.length → ixN (iD l.ws) (r : Int) = .ok (.int (wd l r)) := fun r => ix_iD (xs := l.ws) (r := r)
  have e3 : ∀ r, r < l.cs.length → ixN (iD l.cs) (r : Int) = .ok (.int (cd l r)) := fun r => ix_iD (xs := l.cs) (r := r)
  have e4 : ∀ r, r < as.length → ixN (iD as) (r : Int) = .ok (.int (ad as r)) := fun r => ix_iD (xs := as) (r := r)
  have gb := fun op r s (ho : op ∈ BINS) => N_binary_of ho (wd_w hw r) (wd_w hw s)
  have gs := fun s (hs : s ∈ SPEC) => special_eq (s := s) (n := n) (g := g) (as := as) (bs := bs) hs hb hb2
  have l1 : (launchD g b as bs).ix 2 = .ok (.tup (iD as)) := rfl
  generalize launchD g b as bs = la at gs l1
  cases i <;> simp only [Ins.ok] at ok <;> simp [N_result, laneD, insD, e2, e3, e4, gb, gs, l1, ok, resO, resW, N_unary]
theorem iD_set {xs : List Int} {k : Nat} {w : Int} : (iD xs).set k (.int w) = iD (xs.set k w) := by unfold iD; rw [List.map_set]
@[simp] theorem iD_len {xs : List Int} : (iD xs).length = xs.length := by unfold iD; rw [List.length_map]
theorem resW_lt {l : Lane} {i : Ins} {n g b many : Nat} {as : List Int} {w : Int} {p : Nat × Int} (ok : i.ok as l.ws.length l.cs.length many) (e : resW l n g b as w i = some p) : p.1 < l.ws.length := by
  cases i <;> simp only [resW, Ins.ok, Option.some.injEq, reduceCtorEq] at e ok <;> subst e <;> first | exact ok.1 | exact ok
def kindS : Ins → List Nat
  | .word _ _ => i_word
  | .param _ _ => i_param
  | .special _ _ => i_special
  | .copy _ _ => i_copy
  | .un _ _ _ => i_unary
  | .bin _ _ _ _ => i_binary
  | .get _ _ => i_get
  | .keep _ _ => i_keep
  | .load _ _ _ => i_load
  | .store _ _ _ => i_store
  | .atomic _ _ _ _ => i_atomic
  | .barrier _ => i_barrier
  | .collect _ _ _ _ => i_collect
  | .exit => i_exit
  | .jump _ => i_jump
  | .branch _ _ _ => i_branch
theorem behind_eq {c : Code} {l : Lane} {n g b : Nat} {as : List Int} {bs : D} {w : Int} (G : Good c l as b) :
    N_behind (codeD c) (launchD g b as bs) (n : Int) (laneD l) w = .ok (laneD (behL l n g b as w (c.rows[l.pc]'G.pc))) := by
  have e1 := ix_rows G.pc
  have ok := G.ok _ (List.getElem_mem G.pc)
  have e2 : ∀ r, r < l.ws.length → ixN (iD l.ws) (r : Int) = .ok (.int (wd l r)) := fun r => ix_iD (xs := l.ws) (r := r)
  have ch1 := fun k v hk => changed_eq (xs := iD l.ws) (k := k) (w := .int v) (by rw [iD_len]; exact hk) (by rw [iD_len]; exact Nat.le_trans G.lw (by decide))
  have ch2 := fun k v hk => changed_eq (xs := iD l.cs) (k := k) (w := .int v) (by rw [iD_len]; exact hk) (by rw [iD_len]; exact Nat.le_trans G.lc (by decide))
  simp only [iD_set] at ch1 ch2
  generalize c.rows[l.pc]'G.pc = i at e1 ok ⊢
  have rs := result_eq (n := n) (g := g) (bs := bs) (w := w) ok G.ww G.b0 G.b1
  have rlt := fun p => resW_lt (n := n) (g := g) (b := b) (as := as) (w := w) (p := p) ok
  have li : (laneD l).as3 = .ok ⟨.int l.pc, .tup (iD l.ws), .tup (iD l.cs)⟩ := rfl
  have le : behL l n g b as w .exit = l := rfl
  have pc1 : ((l.pc : Nat) : Int) + 1 = ((l.pc + 1 : Nat) : Int) := by omega
  clear pc1 li
  cases i <;> simp only [Ins.ok] at ok <;> simp only [insD, resW, resO, laneD] at rs e1 rlt
  case branch r t e =>
    by_cases hz : wd l r = 0 <;> simp [N_behind, codeD, e1, rs, e2, ch1, ch2, ok, behL, resL, laneD, hz]
  all_goals simp [N_behind, codeD, e1, rs, e2, ch1, ch2, ok, behL, resL, laneD, resW]
end
end Lw

set_option Elab.async false
set_option linter.all false
set_option maxRecDepth 100000
set_option maxHeartbeats 8000000
/-! K15b: what the law does with an instruction -/
namespace Lw
open Sx Wd Nx
open Nx.Enc (enc arg red)
open Nx.ToD (toD)
noncomputable section
def insV (i : Ins) : Val := (insD i).enc
theorem ix_encs {ds : List D} {k : Int} {d : D} {h : Hv} (e : ixN ds k = .ok d) : ixK (D.encs ds) k h = .ok d.enc h := by
  have := o_ixD h (D.tup ds).enc (.int k) (D.tup ds) k rfl rfl
  rw [show (D.tup ds).ix k = ixN ds k from rfl, e] at this
  exact this
theorem iV_iD {xs : List Int} : D.encs (iD xs) = iV xs := by rw [D.encs_map]; unfold iD iV; rw [List.map_map]; rfl
theorem ix_iV {xs : List Int} {r : Nat} {h : Hv} (hr : r < xs.length) : ixK (iV xs) (r : Int) h = .ok (.int (xs.getD r 0)) h := ixK_nat (by rw [iV_get hr, List.getD_eq_getElem?_getD, List.getElem?_eq_getElem hr]; rfl)
theorem iV_set {xs : List Int} {d : Nat} {v : Int} : (iV xs).set d (.int v) = iV (xs.set d v) := by unfold iV; rw [List.map_set]
def k_reg : List Nat := [114, 101, 103, 105, 115, 116, 101, 114, 115]
def k_cells : List Nat := [99, 101, 108, 108, 115]
def k_thr : List Nat := [116, 104, 114, 101, 97, 100, 115]
def k_lau : List Nat := [108, 97, 117, 110, 99, 104]
/-- what an instruction does to the two rows -/
def doneR (l : Lane) (n g b : Nat) (as : List Int) (r q : Nat) (h : Hv) : Ins → Hv
  | .keep k x => h.set q (.lst (iV (l.cs.set k (wd l x))))
  | i => match resW l n g b as 0 i with
    | some p => h.set r (.lst (iV (l.ws.set p.1 p.2)))
    | none => h
def Ins.plain : Ins → Bool
  | .word _ _ => true
  | .param _ _ => true
  | .special _ _ => true
  | .copy _ _ => true
  | .un _ _ _ => true
  | .bin _ _ _ _ => true
  | .get _ _ => true
  | .keep _ _ => true
  | _ => false
theorem done_spec {h : Hv} {W T t r q : Nat} {l : Lane} {i : Ins} {n g b many : Nat} {as : List Int} {bs : Val} (pl : i.plain = true) (ok : i.ok as l.ws.length l.cs.length many) (hw : ∀ w ∈ l.ws, isW w) (hb : 0 < b) (hb2 : b < 1000)
    (cW : cellAt h W = some (.dK [.inr k_thr, .inr k_lau] [.ref T, .tup [.int g, .int b, .tup (iV as), bs]])) (cT : cellAt h T = some (.dK [.inl (n : Int)] [.ref t])) (ct : cellAt h t = some (.dK [.inr k_reg, .inr k_cells] [.ref r, .ref q]))
    (cr : cellAt h r = some (.lst (iV l.ws))) (cq : cellAt h q = some (.lst (iV l.cs))) : G_law_done [.ref W, .int n, insV i] h = .ok .non (doneR l n g b as r q h i) := by
  have e2 : ∀ (r : Nat) h, r < l.ws.length → ixK (iV l.ws) (r : Int) h = .ok (.int (wd l r)) h := fun r h => ix_iV (xs := l.ws) (r := r) (h := h)
  have e3 : ∀ (r : Nat) h, r < l.cs.length → ixK (iV l.cs) (r : Int) h = .ok (.int (cd l r)) h := fun r h => ix_iV (xs := l.cs) (r := r) (h := h)
  have e4 : ∀ (r : Nat) h, r < as.length → ixK (iV as) (r : Int) h = .ok (.int (ad as r)) h := fun r h => ix_iV (xs := as) (r := r) (h := h)
  have gb := fun op x y h ho => G_law_binary_of (op := op) (h := h) (wd_w hw x) (wd_w hw y) ho
  have gu := fun op a h ho => G_law_unary_of (op := op) (a := a) (h := h) ho
  have sr : ∀ (d : Nat) v, d < l.ws.length → setK r (d : Int) (.int v) (iV l.ws) h = .ok .non (h.set r (.lst (iV (l.ws.set d v)))) := fun d v hd => by
    rw [setK_of (by omega) (by rw [Int.toNat_natCast, iV_len]; exact hd), Int.toNat_natCast, iV_set]
  have sq : ∀ (d : Nat) v, d < l.cs.length → setK q (d : Int) (.int v) (iV l.cs) h = .ok .non (h.set q (.lst (iV (l.cs.set d v)))) := fun d v hd => by
    rw [setK_of (by omega) (by rw [Int.toNat_natCast, iV_len]; exact hd), Int.toNat_natCast, iV_set]
  cases i <;> simp only [Ins.plain, Bool.false_eq_true] at pl <;> simp only [Ins.ok] at ok
  case special d s =>
    obtain ⟨ok1, ok2⟩ := ok
    have b1 : (0 : Int) < b := by omega
    have b2 : (b : Int) < 1000000000000 := by omega
    simp only [SPEC, List.mem_cons, List.not_mem_nil, or_false] at ok2
    rcases ok2 with rfl | rfl | rfl | rfl <;> simp [G_law_done, M_law_done, M_law_done_b, List.replicate, insV, insD, D.enc, D.encs, cW, cT, ct, cr, cq, k_thr, k_lau, k_reg, k_cells, sr, sq, doneR, resW, lstK, i_word, i_param, i_special, i_copy, i_unary, i_binary, i_get, i_keep, e2, e3, e4, gb, gu, ok1, b1, b2, hb, spV]
  all_goals simp [G_law_done, M_law_done, M_law_done_b, List.replicate, insV, insD, D.enc, D.encs, cW, cT, ct, cr, cq, k_thr, k_lau, k_reg, k_cells, sr, sq, ok, doneR, resW, lstK, i_word, i_param, i_special, i_copy, i_unary, i_binary, i_get, i_keep, e2, e3, e4, gb, gu]
theorem done_len {l : Lane} {n g b : Nat} {as : List Int} {r q : Nat} {h : Hv} {i : Ins} : (doneR l n g b as r q h i).length = h.length := by
  cases i <;> simp [doneR, resW]
/-- five new cells -/
theorem c5_0 {h : Hv} {a b c d e : Cell} : cellAt (h ++ [a, b, c, d, e]) h.length = some a := by unfold cellAt; simp
theorem c5_1 {h : Hv} {a b c d e : Cell} : cellAt (h ++ [a, b, c, d, e]) (h.length + 1) = some b := by unfold cellAt; rw [List.getElem?_append_right (by omega)]; simp
theorem c5_2 {h : Hv} {a b c d e : Cell} : cellAt (h ++ [a, b, c, d, e]) (h.length + 2) = some c := by unfold cellAt; rw [List.getElem?_append_right (by omega)]; simp
theorem c5_3 {h : Hv} {a b c d e : Cell} : cellAt (h ++ [a, b, c, d, e]) (h.length + 3) = some d := by unfold cellAt; rw [List.getElem?_append_right (by omega)]; simp
theorem c5_4 {h : Hv} {a b c d e : Cell} : cellAt (h ++ [a, b, c, d, e]) (h.length + 4) = some e := by unfold cellAt; rw [List.getElem?_append_right (by omega)]; simp
theorem s5_0 {h : Hv} {a b c d e x : Cell} : (h ++ [a, b, c, d, e]).set h.length x = h ++ [x, b, c, d, e] := by rw [List.set_append_right _ _ (by omega)]; simp
theorem s5_1 {h : Hv} {a b c d e x : Cell} : (h ++ [a, b, c, d, e]).set (h.length + 1) x = h ++ [a, x, c, d, e] := by rw [List.set_append_right _ _ (by omega)]; simp
theorem c2_0 {h : Hv} {a b : Cell} : cellAt (h ++ [a, b]) h.length = some a := by unfold cellAt; simp
theorem c2_1 {h : Hv} {a b : Cell} : cellAt (h ++ [a, b]) (h.length + 1) = some b := by unfold cellAt; rw [List.getElem?_append_right (by omega)]; simp
theorem s2_0 {h : Hv} {a b x : Cell} : (h ++ [a, b]).set h.length x = h ++ [x, b] := by rw [List.set_append_right _ _ (by omega)]; simp
theorem cListN_tup {vs : List Val} {h : Hv} : cListN [.tup vs] h = .ok (.ref h.length) (h ++ [.lst vs]) := rfl
theorem cTup_ref {n : Nat} {h : Hv} : cTup [.ref n] h = lstK? (fun vs h => .ok (.tup vs) h) (cellAt h n) h := by
  show gItems _ (.ref n) h = _
  unfold gItems Val.items lstK? cellAt
  simp only
  generalize h[n]? = z
  cases z with
  | none => rfl
  | some c => cases c <;> rfl
theorem kind_M (i : Ins) (h : Hv) : gIxD (insD i).enc (.int 0) h = .ok (.str (kindS i)) h := by cases i <;> rfl
theorem done_end {l : Lane} {n g b : Nat} {as : List Int} {w : Int} {h : Hv} {i : Ins} (pl : i.plain = true) (x y z : Cell) : ∃ X ws' cs', doneR l n g b as h.length (h.length + 1) (h ++ [.lst (iV l.ws), .lst (iV l.cs), x, y, z]) i = h ++ X ∧ cellAt (h ++ X) h.length = some (.lst (iV ws')) ∧ cellAt (h ++ X) (h.length + 1) = some (.lst (iV cs')) ∧ behL l n g b as w i = ⟨l.pc + 1, ws', cs'⟩ := by
  cases i <;> simp only [Ins.plain, Bool.false_eq_true] at pl
  case keep k r => exact ⟨[.lst (iV l.ws), .lst (iV (l.cs.set k (wd l r))), x, y, z], l.ws, _, s5_1, c5_0, c5_1, rfl⟩
  all_goals exact ⟨[.lst (iV (l.ws.set _ _)), .lst (iV l.cs), x, y, z], _, l.cs, s5_0, c5_0, c5_1, rfl⟩
theorem plain_kind {i : Ins} (pl : i.plain = true) : kindS i = i_word ∨ kindS i = i_param ∨ kindS i = i_special ∨ kindS i = i_copy ∨ kindS i = i_unary ∨ kindS i = i_binary ∨ kindS i = i_get ∨ kindS i = i_keep := by
  cases i <;> simp only [Ins.plain, Bool.false_eq_true] at pl <;> simp [kindS]
theorem behind_M {c : Code} {l : Lane} {n g b : Nat} {as : List Int} {bs : D} {w : Int} (G : Good c l as b) (h : Hv) :
    ∃ h', M_law_behind [(codeD c).enc, (launchD g b as bs).enc, .int n, (laneD l).enc, .int w] h = .ok (laneD (behL l n g b as w (c.rows[l.pc]'G.pc))).enc h' ∧ Bs h h' := by
  have e1 := fun h => ix_encs (h := h) (ix_rows G.pc)
  have ok := G.ok _ (List.getElem_mem G.pc)
  have e2 : ∀ (r : Nat) h, r < l.ws.length → ixK (iV l.ws) (r : Int) h = .ok (.int (wd l r)) h := fun r h => ix_iV (xs := l.ws) (r := r) (h := h)
  have sr : ∀ (d : Nat) v h r, d < l.ws.length → setK r (d : Int) (.int v) (iV l.ws) h = .ok .non (h.set r (.lst (iV (l.ws.set d v)))) := fun d v h r hd => by
    rw [setK_of (by omega) (by rw [Int.toNat_natCast, iV_len]; exact hd), Int.toNat_natCast, iV_set]
  have ext : ∀ X, Bs h (h ++ X) := fun X => ⟨by simp, fun j hj => by rw [List.getElem?_append_left hj]⟩
  have dn : ∀ i : Ins, i.plain = true → i.ok as l.ws.length l.cs.length c.rows.length → G_law_done [.ref (h.length + 4), .int n, (insD i).enc] (h ++ [.lst (iV l.ws), .lst (iV l.cs), .dK [.inr k_reg, .inr k_cells] [.ref h.length, .ref (h.length + 1)], .dK [.inl (n : Int)] [.ref (h.length + 2)], .dK [.inr k_thr, .inr k_lau] [.ref (h.length + 3), .tup [.int g, .int b, .tup (iV as), bs.enc]]]) = .ok .non (doneR l n g b as h.length (h.length + 1) (h ++ [.lst (iV l.ws), .lst (iV l.cs), .dK [.inr k_reg, .inr k_cells] [.ref h.length, .ref (h.length + 1)], .dK [.inl (n : Int)] [.ref (h.length + 2)], .dK [.inr k_thr, .inr k_lau] [.ref (h.length + 3), .tup [.int g, .int b, .tup (iV as), bs.enc]]]) i) := fun i pl ok =>
    done_spec pl ok G.ww G.b0 G.b1 c5_4 c5_3 c5_2 c5_0 c5_1
  have le : (laneD l).enc = .tup [.int l.pc, .tup (iV l.ws), .tup (iV l.cs)] := by show Val.tup [.int l.pc, .tup (D.encs (iD l.ws)), .tup (D.encs (iD l.cs))] = _; rw [iV_iD, iV_iD]
  have lau : (launchD g b as bs).enc = .tup [.int g, .int b, .tup (iV as), bs.enc] := by show Val.tup [.int g, .int b, .tup (D.encs (iD as)), bs.enc] = _; rw [iV_iD]
  have ce : (codeD c).enc = .tup [c.ps.enc, c.sh.enc, .int c.loc, .tup (D.encs (c.rows.map insD))] := rfl
  have lm : ∀ p ws cs, (laneD ⟨p, ws, cs⟩).enc = .tup [.int p, .tup (iV ws), .tup (iV cs)] := fun p ws cs => by show Val.tup [.int p, .tup (D.encs (iD ws)), .tup (D.encs (iD cs))] = _; rw [iV_iD, iV_iD]
  generalize c.rows[l.pc]'G.pc = i at e1 ok ⊢
  rw [ce, lau, le]
  clear lau ce
  cases hp : i.plain
  · clear dn
    cases i <;> simp only [Ins.plain, reduceCtorEq] at hp <;> simp only [Ins.ok] at ok
    case branch r t e =>
      by_cases hz : wd l r = 0
      · exact ⟨h ++ [.lst (iV l.ws), .lst (iV l.cs)], by simp [M_law_behind, M_law_behind_b, List.replicate, e1, insD, D.enc, D.encs, cListN_tup, lstK, tupK, i_word, i_param, i_special, i_copy, i_unary, i_binary, i_get, i_keep, i_load, i_store, i_atomic, i_barrier, i_collect, i_exit, i_jump, i_branch, c2_0, c2_1, s2_0, cTup_ref, e2, sr, behL, resL, resW, lm, ok, le, List.append_assoc, hz], ext _⟩
      · exact ⟨h ++ [.lst (iV l.ws), .lst (iV l.cs)], by simp [M_law_behind, M_law_behind_b, List.replicate, e1, insD, D.enc, D.encs, cListN_tup, lstK, tupK, i_word, i_param, i_special, i_copy, i_unary, i_binary, i_get, i_keep, i_load, i_store, i_atomic, i_barrier, i_collect, i_exit, i_jump, i_branch, c2_0, c2_1, s2_0, cTup_ref, e2, sr, behL, resL, resW, lm, ok, le, List.append_assoc, hz], ext _⟩
    case load d a r => exact ⟨h ++ [.lst (iV (l.ws.set d w)), .lst (iV l.cs)], by simp [M_law_behind, M_law_behind_b, List.replicate, e1, insD, D.enc, D.encs, cListN_tup, lstK, tupK, i_word, i_param, i_special, i_copy, i_unary, i_binary, i_get, i_keep, i_load, i_store, i_atomic, i_barrier, i_collect, i_exit, i_jump, i_branch, c2_0, c2_1, s2_0, cTup_ref, e2, sr, behL, resL, resW, lm, ok, le, List.append_assoc], ext _⟩
    case collect op d r k => exact ⟨h ++ [.lst (iV (l.ws.set d w)), .lst (iV l.cs)], by simp [M_law_behind, M_law_behind_b, List.replicate, e1, insD, D.enc, D.encs, cListN_tup, lstK, tupK, i_word, i_param, i_special, i_copy, i_unary, i_binary, i_get, i_keep, i_load, i_store, i_atomic, i_barrier, i_collect, i_exit, i_jump, i_branch, c2_0, c2_1, s2_0, cTup_ref, e2, sr, behL, resL, resW, lm, ok, le, List.append_assoc], ext _⟩
    all_goals exact ⟨h ++ [.lst (iV l.ws), .lst (iV l.cs)], by simp [M_law_behind, M_law_behind_b, List.replicate, e1, insD, D.enc, D.encs, cListN_tup, lstK, tupK, i_word, i_param, i_special, i_copy, i_unary, i_binary, i_get, i_keep, i_load, i_store, i_atomic, i_barrier, i_collect, i_exit, i_jump, i_branch, c2_0, c2_1, s2_0, cTup_ref, e2, sr, behL, resL, resW, lm, ok, le, List.append_assoc], ext _⟩
  · have dn := dn i hp ok
    have ki := kind_M i
    obtain ⟨X, ws', cs', d1, d2, d3, d4⟩ := done_end (l := l) (n := n) (g := g) (b := b) (as := as) (w := w) (h := h) hp (.dK [.inr k_reg, .inr k_cells] [.ref h.length, .ref (h.length + 1)]) (.dK [.inl (n : Int)] [.ref (h.length + 2)]) (.dK [.inr k_thr, .inr k_lau] [.ref (h.length + 3), .tup [.int g, .int b, .tup (iV as), bs.enc]])
    rw [d1] at dn
    rw [d4, lm]
    refine ⟨h ++ X, ?_, ext _⟩
    have pk := plain_kind hp
    generalize (insD i).enc = iv at e1 dn ki
    generalize kindS i = ks at ki pk
    simp only [k_reg, k_cells, k_thr, k_lau] at dn
    rcases pk with rfl | rfl | rfl | rfl | rfl | rfl | rfl | rfl <;> simp [M_law_behind, M_law_behind_b, List.replicate, e1, ki, dn, cListN_tup, lstK, tupK, dispK, keysOf, d2, d3, cTup_ref, List.append_assoc]
end
end Lw

set_option Elab.async false
set_option linter.all false
set_option maxRecDepth 100000
set_option maxHeartbeats 8000000
/-! K15c: the code and the launch that are drawn -/
namespace Lw
open Sx Wd Nx
open Nx.Enc (enc arg red)
open Nx.ToD (toD)
noncomputable section
theorem word_i {s : Strm} {Q : Int × Strm → Prop} (q : ∀ w s', isW w → Q (w, s')) : (noE (N_law_word s)).Ok Q := by
  refine N.Ok.noE ?_
  unfold N_law_word
  repeat refine N.Ok.b2 ?_
  refine draw_i ?_ fun a s1 ha => ?_
  · omega
  refine N.Ok.b ?_
  refine N.Ok.mul ?_ ?_
  · dsimp only; omega
  refine N.Ok.i ?_
  refine N.Ok.b2 ?_
  refine draw_i ?_ fun b s2 hb => ?_
  · omega
  repeat (refine N.Ok.i ?_; try dsimp only)
  refine pick_i ?_ fun x hx s3 => ?_
  · simp
  refine N.Ok.i (q _ _ ?_)
  simp only [List.mem_cons, List.not_mem_nil, or_false] at hx
  unfold isW
  omega
def paramD (p : List Nat × List Nat) : D := .tup [.str p.1, .str p.2]
def paramsD (pl : List (List Nat × List Nat)) : D := .tup (pl.map paramD)
def sharedD (sl : List (List Nat × Nat)) : D := .tup (sl.map fun p => .tup [.str p.1, .int p.2])
def uns3 : List (List Nat) := [[110, 101, 103], [110, 111, 116], [122, 101, 114, 111]]
theorem ops_un : N_law_operators [117, 110, 97, 114, 121] = .ok uns3 := by
  unfold N_law_operators
  simp [szN_of, uns3]
theorem ops_fold : ∃ l, N_law_operators [102, 111, 108, 100] = .ok l ∧ 0 < l.length ∧ l.length < 100 := by
  unfold N_law_operators
  simp [szN_of]
theorem ops_bin : N_law_operators [98, 105, 110, 97, 114, 121] = .ok BINS := by
  unfold N_law_operators
  simp [szN_of]
  rfl
theorem len_params {pl : List (List Nat × List Nat)} : (paramsD pl).len = .ok (pl.length : Int) := by show N.ok (((pl.map paramD).length : Nat) : Int) = _; rw [List.length_map]
theorem len_shared {pl : List (List Nat × Nat)} : (sharedD pl).len = .ok (pl.length : Int) := by show N.ok (((pl.map fun p => D.tup [.str p.1, .int p.2]).length : Nat) : Int) = _; rw [List.length_map]
theorem sort_Ok {pl : List (List Nat × List Nat)} {x : Int} {l : List Nat} (hx : x ∈ rangeN 0 pl.length) : ((((paramsD pl).ix x).bind fun t => t.ix 1).bind fun u => eqD u (toD l)).Ok fun _ => True := by
  have h := mem_rangeN.mp hx
  obtain ⟨k, rfl⟩ := Int.eq_ofNat_of_zero_le h.1
  have hk : k < pl.length := by omega
  have e : (paramsD pl).ix (k : Int) = .ok (paramD pl[k]) := by
    unfold paramsD
    rw [D.ix_tup, ixN_of (by rw [List.length_map]; exact hk), List.getElem_map]
  rw [e]
  simp only [N.ok_bind, paramD, D.ix_tup, ixN_1, toD_str, eqD_ss]
  exact ⟨_, rfl, trivial⟩
theorem instr_i {s : Strm} {pl : List (List Nat × List Nat)} {sl : List (List Nat × Nat)} {m loc many : Nat} (hp : pl.length ≤ 10) (hs : sl.length ≤ 10) (hm : 0 < m ∧ m ≤ 8) {Q : D × Strm → Prop}
    (fin : ∀ i s', (∀ as : List Int, as.length = pl.length → i.ok as 8 loc many) → Q (insD i, s')) : (noE (N_law_instruction s (paramsD pl) (sharedD sl) (m : Int))).Ok Q := by
  refine N.Ok.noE ?_
  unfold N_law_instruction
  have rp : range1N (pl.length : Int) = .ok (rangeN 0 pl.length) := range1N_of (by omega)
  have rs : range1N (sl.length : Int) = .ok (rangeN 0 sl.length) := range1N_of (by omega)
  refine N.Ok.b2 (draw_i ?_ fun d _ hd => ?_)
  · omega
  refine N.Ok.b2 (draw_i ?_ fun r _ hr => ?_)
  · omega
  refine N.Ok.b2 (draw_i ?_ fun q s1 hq => ?_)
  · omega
  have hd' : d < 8 := by omega
  have hr' : r < 8 := by omega
  have hq' : q < 8 := by omega
  rw [len_params, len_shared]
  repeat refine N.Ok.b ?_
  refine N.Ok.i (.eq rp (.i ?_))
  refine (N.Ok.noE (lcN_all (P := fun y => ∃ k : Nat, y = (k : Int) ∧ k < pl.length) (fun x hx => sort_Ok hx) (fun x hx => ⟨x, rfl, x.toNat, by have := mem_rangeN.mp hx; omega, by have := mem_rangeN.mp hx; omega⟩) (by simp; omega))).imp fun isL hiL => ?_
  repeat refine N.Ok.b ?_
  refine N.Ok.i (.eq rp (.i ?_))
  refine (N.Ok.noE (lcN_all (P := fun y => ∃ k : Nat, y = (k : Int)) (fun x hx => sort_Ok hx) (fun x hx => ⟨x, rfl, x.toNat, by have := mem_rangeN.mp hx; omega⟩) (by simp; omega))).imp fun bufs hbufs => ?_
  repeat refine N.Ok.b ?_
  refine N.Ok.i (.eq rs (.i ?_))
  refine (N.Ok.noE (lcN_all (P := fun y => ∃ k : Nat, y = (k : Int)) (fun x hx => ⟨_, rfl, trivial⟩) (fun x hx => ⟨_, rfl, (6 + x).toNat, by have := mem_rangeN.mp hx; omega⟩) (by simp; omega))).imp fun shs hshs => ?_
  have hl1 : isL.length ≤ 10 := by have := hiL.2; simp at this; omega
  have hl2 : bufs.length ≤ 10 := by have := hbufs.2; simp at this; omega
  have hl3 : shs.length ≤ 10 := by have := hshs.2; simp at this; omega
  refine N.Ok.sz ?_ ?_
  · rw [List.length_append]; omega
  have har : ∀ y ∈ bufs ++ shs, ∃ k : Nat, y = (k : Int) := fun y hy => by
    rcases List.mem_append.mp hy with z | z
    · exact hbufs.1 y z
    · exact hshs.1 y z
  have hal : (bufs ++ shs).length ≤ 20 := by rw [List.length_append]; omega
  dsimp only
  generalize bufs ++ shs = arrs at har hal
  have hiL := hiL.1
  have pa : ∀ {Q : Int × Strm → Prop} {s : Strm}, (!arrs.isEmpty) = true → (∀ (k : Nat) s', Q ((k : Int), s')) → (noE (N_law_pick s arrs)).Ok Q := fun {Q s} e q => by
    refine pick_i ⟨by cases arrs <;> simp_all, by omega⟩ fun x hx s' => ?_
    obtain ⟨k, rfl⟩ := har x hx
    exact q k s'
  have em : ∀ {c : Prop} [Decidable c] {z : Bool} {Q : Bool → Prop}, (c → z = true → Q true) → ((¬ c ∨ z = false) → Q false) → (if decide c = true then N.ok z else N.ok false).Ok Q := fun {c _ z Q} q1 q2 => by
    by_cases hc : c
    · cases z
      · simp only [hc, decide_true, if_true]; exact .i (q2 (.inr rfl))
      · simp only [hc, decide_true, if_true]; exact .i (q1 hc rfl)
    · simp only [hc, decide_false, if_false, Bool.false_eq_true]; exact .i (q2 (.inl hc))
  refine N.Ok.b2 (draw_i ?_ fun pk s2 hpk => ?_)
  · omega
  refine N.Ok.b (.i (.ite (fun c1 => ?_) fun c1 => ?_))
  · repeat refine N.Ok.b2 ?_
    refine word_i fun w _ hw => ?_
    repeat (refine N.Ok.i ?_; try dsimp only)
    refine pick_i ?_ fun x hx s' => ?_
    · simp
    repeat (refine N.Ok.i ?_; try dsimp only)
    refine fin (.word d x) _ fun as _ => ⟨hd', ?_⟩
    simp only [List.mem_cons, List.not_mem_nil, or_false] at hx
    unfold isW at hw ⊢
    omega
  refine N.Ok.b (em (fun c2 e2 => ?_) fun c2 => ?_)
  · refine N.Ok.iteB (fun _ => ?_) fun z => by cases z
    repeat refine N.Ok.b2 ?_
    refine pick_i ⟨?_, ?_⟩ fun x hx s' => ?_
    · cases isL <;> simp_all
    · omega
    obtain ⟨k, rfl, hk⟩ := hiL x hx
    repeat (refine N.Ok.i ?_; try dsimp only)
    exact fin (.param d k) _ fun as h => ⟨hd', by rw [h]; exact hk⟩
  refine N.Ok.iteB (fun z => by cases z) fun _ => ?_
  refine N.Ok.b (.i (.ite (fun c3 => ?_) fun c3 => ?_))
  · repeat refine N.Ok.b2 ?_
    repeat (refine N.Ok.i ?_; try dsimp only)
    refine pick_i ?_ fun x hx s' => ?_
    · simp
    repeat (refine N.Ok.i ?_; try dsimp only)
    exact fin (.special d x) _ fun as h => ⟨hd', hx⟩
  refine N.Ok.b (.i (.ite (fun c4 => ?_) fun c4 => ?_))
  · repeat refine N.Ok.b2 ?_
    repeat refine N.Ok.b ?_
    repeat (refine N.Ok.i ?_; try dsimp only)
    exact fin (.copy d r) _ fun as h => ⟨hd', hr'⟩
  refine N.Ok.b (.i (.ite (fun c5 => ?_) fun c5 => ?_))
  · repeat refine N.Ok.b2 ?_
    refine N.Ok.b (.noE (.eq ops_un (.i (.i ?_))))
    refine pick_i ?_ fun x hx s' => ?_
    · simp [uns3]
    repeat (refine N.Ok.i ?_; try dsimp only)
    exact fin (.un x d r) _ fun as h => ⟨hd', hr', hx⟩
  refine N.Ok.b (em (fun c6 e6 => ?_) fun c6 => ?_)
  · refine N.Ok.iteB (fun _ => ?_) fun z => by cases z
    repeat refine N.Ok.b2 ?_
    refine pa e6 fun k s' => ?_
    repeat (refine N.Ok.i ?_; try dsimp only)
    exact fin (.load d k r) _ fun as h => ⟨hd', hr'⟩
  refine N.Ok.iteB (fun z => by cases z) fun _ => ?_
  refine N.Ok.b (em (fun c7 e7 => ?_) fun c7 => ?_)
  · refine N.Ok.iteB (fun _ => ?_) fun z => by cases z
    obtain ⟨fl, f1, f2, f3⟩ := ops_fold
    repeat refine N.Ok.b2 ?_
    refine N.Ok.b (.noE (.eq f1 (.i (.i ?_))))
    dsimp only
    refine pick_i ⟨f2, ?_⟩ fun op hop s' => ?_
    · omega
    repeat (refine N.Ok.i ?_; try dsimp only)
    repeat refine N.Ok.b2 ?_
    refine pa e7 fun k s' => ?_
    repeat (refine N.Ok.i ?_; try dsimp only)
    exact fin (.atomic op k r q) _ fun as h => ⟨hr', hq'⟩
  refine N.Ok.iteB (fun z => by cases z) fun _ => ?_
  refine N.Ok.b (em (fun c8 e8 => ?_) fun c8 => ?_)
  · refine N.Ok.iteB (fun _ => ?_) fun z => by cases z
    repeat refine N.Ok.b2 ?_
    refine pa e8 fun k s' => ?_
    repeat (refine N.Ok.i ?_; try dsimp only)
    exact fin (.store k r q) _ fun as h => ⟨hr', hq'⟩
  refine N.Ok.iteB (fun z => by cases z) fun _ => ?_
  refine N.Ok.b (.i (.ite (fun c9 => ?_) fun c9 => ?_))
  · obtain ⟨fl, f1, f2, f3⟩ := ops_fold
    repeat refine N.Ok.b2 ?_
    refine draw_i ?_ fun k1 s3 hk1 => ?_
    · omega
    repeat (refine N.Ok.i ?_; try dsimp only)
    repeat refine N.Ok.b2 ?_
    refine N.Ok.b (.noE (.eq f1 (.i (.i ?_))))
    dsimp only
    refine pick_i ⟨f2, ?_⟩ fun op hop s4 => ?_
    · omega
    repeat (refine N.Ok.i ?_; try dsimp only)
    repeat refine N.Ok.b2 ?_
    refine draw_i ?_ fun k2 s5 hk2 => ?_
    · omega
    repeat (refine N.Ok.i ?_; try dsimp only)
    refine pick_i ?_ fun x hx s6 => ?_
    · simp
    repeat (refine N.Ok.i ?_; try dsimp only)
    simp only [List.mem_cons, List.not_mem_nil, or_false] at hx
    rcases hx with rfl | rfl
    · exact fin (.barrier k1) _ fun as h => trivial
    · exact fin (.collect op d r k2) _ fun as h => ⟨hd', hr'⟩
  repeat refine N.Ok.b2 ?_
  refine N.Ok.b (.noE (.eq ops_bin (.i (.i ?_))))
  dsimp only
  refine pick_i ?_ fun op hop s' => ?_
  · decide
  repeat (refine N.Ok.i ?_; try dsimp only)
  exact fin (.bin op d r q) _ fun as h => ⟨hd', hr', hq', hop⟩
end
end Lw

set_option Elab.async false
set_option linter.all false
set_option maxRecDepth 100000
set_option maxHeartbeats 8000000
/-! K15d: the code and the launch that are drawn -/
namespace Lw
open Sx Wd Nx
open Nx.Enc (enc arg red)
open Nx.ToD (toD)
noncomputable section
def Ins.isEnd : Ins → Bool
  | .exit => true
  | .jump _ => true
  | _ => false
structure GoodC (c : Code) : Prop where
  ps : ∃ pl : List (List Nat × List Nat), c.ps = paramsD pl ∧ pl.length ≤ 10 ∧ ∀ as : List Int, as.length = pl.length → ∀ i ∈ c.rows, i.ok as 8 c.loc c.rows.length
  loc : c.loc ≤ 10
  r0 : 0 < c.rows.length
  r1 : c.rows.length ≤ 1000
  last : ∀ (j : Nat) (i : Ins), c.rows[j]? = some i → j + 1 = c.rows.length → i.isEnd = true
theorem code_i {s : Strm} {Q : D × Strm → Prop} (fin : ∀ c s', GoodC c → Q (codeD c, s')) : (noE (N_law_code s)).Ok Q := by
  refine N.Ok.noE ?_
  unfold N_law_code
  repeat refine N.Ok.b2 ?_
  repeat (refine N.Ok.i ?_; try dsimp only)
  refine pick_i ?_ fun P hP s1 => ?_
  · simp
  have hP : ∃ pl : List (List Nat × List Nat), P = paramsD pl ∧ pl.length ≤ 10 := by
    simp only [List.mem_cons, List.not_mem_nil, or_false] at hP
    rcases hP with rfl | rfl | rfl | rfl
    · exact ⟨[([110], [105, 110, 116]), ([97], [98, 117, 102, 102, 101, 114])], rfl, by simp⟩
    · exact ⟨[([97], [98, 117, 102, 102, 101, 114]), ([110], [105, 110, 116]), ([98], [98, 117, 102, 102, 101, 114])], rfl, by simp⟩
    · exact ⟨[([97], [98, 117, 102, 102, 101, 114])], rfl, by simp⟩
    · exact ⟨[], rfl, by simp⟩
  obtain ⟨pl, rfl, hpl⟩ := hP
  repeat refine N.Ok.b2 ?_
  repeat (refine N.Ok.i ?_; try dsimp only)
  refine pick_i ?_ fun S hS s2 => ?_
  · simp
  have hS : ∃ sl : List (List Nat × Nat), S = sharedD sl ∧ sl.length ≤ 10 := by
    simp only [List.mem_cons, List.not_mem_nil, or_false] at hS
    rcases hS with rfl | rfl | rfl | rfl
    · exact ⟨[], rfl, by simp⟩
    · exact ⟨[], rfl, by simp⟩
    · exact ⟨[([115], 3)], rfl, by simp⟩
    · exact ⟨[([115], 2), ([114], 1)], rfl, by simp⟩
  obtain ⟨sl, rfl, hsl⟩ := hS
  repeat refine N.Ok.b2 ?_
  refine draw_i ?_ fun loc s3 hloc => ?_
  · omega
  repeat refine N.Ok.b2 ?_
  refine draw_i ?_ fun mm s4 hmm => ?_
  · omega
  refine N.Ok.i ?_
  dsimp only
  obtain ⟨many, hmany⟩ : ∃ many : Nat, (1 : Int) + (mm : Int) = (many : Int) := ⟨1 + mm, by omega⟩
  rw [hmany]
  have hm0 : 0 < many := by omega
  have hm1 : many ≤ 12 := by omega
  clear hmany
  refine N.Ok.b (.i (.b (.i (.b (.b (.rng ?_ ?_))))))
  · omega
  refine (forN_inv (k := 0) (fun k g => ∃ js : List Ins, g.2 = js.map insD ∧ js.length = k ∧ (∀ (j : Nat) (i : Ins), js[j]? = some i → j + 1 = many → i.isEnd = true) ∧ ∀ as : List Int, as.length = pl.length → ∀ i ∈ js, i.ok as 8 loc many) ⟨[], rfl, rfl, fun j i e => by simp at e, fun _ _ i hi => nomatch hi⟩ ?_).imp ?_
  · rintro k x ⟨st, rows⟩ hx ⟨js, hr, hl, hend, hok⟩
    dsimp only at hr
    subst hr
    have hx2 : x = (k : Int) ∧ k < many := by
      unfold rangeN at hx
      rw [Int.toNat_natCast, List.getElem?_map] at hx
      have hk : k < many := by
        by_cases z : k < many
        · exact z
        · rw [List.getElem?_eq_none (by simpa using z)] at hx; cases hx
      rw [List.getElem?_range hk] at hx
      simp at hx
      exact ⟨hx.symm, hk⟩
    obtain ⟨rfl, hk⟩ := hx2
    have app : ∀ (i : Ins) (s' : Strm), (k + 1 = many → i.isEnd = true) → (∀ as : List Int, as.length = pl.length → i.ok as 8 loc many) → ((appN (js.map insD) (insD i)).bind fun rows => N.ok (s', rows)).Ok fun g : Strm × List D => ∃ js : List Ins, g.2 = js.map insD ∧ js.length = 0 + k + 1 ∧ (∀ (j : Nat) (i : Ins), js[j]? = some i → j + 1 = many → i.isEnd = true) ∧ ∀ as : List Int, as.length = pl.length → ∀ i ∈ js, i.ok as 8 loc many := fun i s' he hi => by
      refine N.Ok.b ⟨_, if_pos (by rw [List.length_map]; omega), .i ⟨js ++ [i], by simp, by simp; omega, fun j z hz hj => ?_, fun as ha y hy => ?_⟩⟩
      · by_cases hjl : j < js.length
        · rw [List.getElem?_append_left hjl] at hz; exact hend j z hz hj
        · have hjk : j = k := by
            have := (List.getElem?_eq_some_iff.mp hz).1
            simp at this; omega
          rw [List.getElem?_append_right (by omega), show j - js.length = 0 by omega] at hz
          simp at hz
          rw [← hz]; exact he (by omega)
      rcases List.mem_append.mp hy with z | z
      · exact hok as ha y z
      · rw [List.mem_singleton.mp z]; exact hi as ha
    dsimp only
    repeat refine N.Ok.b2 ?_
    refine draw_i ?_ fun pick s5 hpick => ?_
    · omega
    refine N.Ok.b (.i (.ite (fun c1 => ?_) fun c1 => ?_))
    · repeat refine N.Ok.b2 ?_
      refine draw_i ?_ fun p s6 hp => ?_
      · omega
      repeat (refine N.Ok.i ?_; try dsimp only)
      refine N.Ok.ite (fun c2 => ?_) fun c2 => ?_
      · repeat refine N.Ok.b ?_
        repeat (refine N.Ok.i ?_; try dsimp only)
        exact app .exit s6 (fun _ => rfl) fun as h => trivial
      · repeat refine N.Ok.b2 ?_
        refine draw_i ?_ fun t s7 ht => ?_
        · omega
        repeat (refine N.Ok.i ?_; try dsimp only)
        exact app (.jump t) s7 (fun _ => rfl) fun as h => by show t < many; omega
    refine N.Ok.b (.i (.ite (fun c2 => ?_) fun c2 => ?_))
    · repeat refine N.Ok.b2 ?_
      refine draw_i ?_ fun r s6 hr => ?_
      · omega
      repeat (refine N.Ok.i ?_; try dsimp only)
      repeat refine N.Ok.b2 ?_
      refine draw_i ?_ fun t s7 ht => ?_
      · omega
      repeat (refine N.Ok.i ?_; try dsimp only)
      repeat refine N.Ok.b2 ?_
      refine draw_i ?_ fun e s8 he => ?_
      · omega
      repeat (refine N.Ok.i ?_; try dsimp only)
      exact app (.branch r t e) s8 (fun z => absurd z (by omega)) fun as h => ⟨by omega, by omega⟩
    have em : ∀ {c : Prop} [Decidable c] {z : Bool} {Q : Bool → Prop}, (c → z = true → Q true) → ((¬ c ∨ z = false) → Q false) → (if decide c = true then N.ok z else N.ok false).Ok Q := fun {c _ z Q} q1 q2 => by
      by_cases hc : c
      · cases z
        · simp only [hc, decide_true, if_true]; exact .i (q2 (.inr rfl))
        · simp only [hc, decide_true, if_true]; exact .i (q1 hc rfl)
      · simp only [hc, decide_false, if_false, Bool.false_eq_true]; exact .i (q2 (.inl hc))
    refine N.Ok.b (em (fun c3 e3 => ?_) fun c3 => ?_)
    · refine N.Ok.iteB (fun _ => ?_) fun z => by cases z
      have l0 : (0 : Int) < loc := of_decide_eq_true e3
      repeat refine N.Ok.b2 ?_
      refine draw_i ?_ fun d s6 hd => ?_
      · omega
      dsimp only
      refine N.Ok.b2 (draw_i ?_ fun x s7 hx => ?_)
      · omega
      repeat (refine N.Ok.i ?_; try dsimp only)
      repeat refine N.Ok.b2 ?_
      refine draw_i ?_ fun y s8 hy => ?_
      · omega
      dsimp only
      refine N.Ok.b2 (draw_i ?_ fun r s9 hr => ?_)
      · omega
      repeat (refine N.Ok.i ?_; try dsimp only)
      refine pick_i ?_ fun p hp s10 => ?_
      · simp
      repeat (refine N.Ok.i ?_; try dsimp only)
      simp only [List.mem_cons, List.not_mem_nil, or_false] at hp
      rcases hp with rfl | rfl
      · exact app (.get d x) s10 (fun z => absurd z (by omega)) fun as h => ⟨by omega, by omega⟩
      · exact app (.keep y r) s10 (fun z => absurd z (by omega)) fun as h => ⟨by omega, by omega⟩
    refine N.Ok.iteB (fun z => by cases z) fun _ => ?_
    have ins : ∀ (s : Strm), (((((szN [(3 : Int), (3 : Int), (8 : Int)]).bind fun t226 => N.ok (t226, s)).bind2 fun t227 s228 => noE (N_law_pick s228 t227)).bind2 fun t229 s230 => noE (N_law_instruction s230 (paramsD pl) (sharedD sl) t229)).bind2 fun t224 s225 => (appN (List.map insD js) t224).bind fun rows_223 => N.ok (s225, rows_223)).Ok fun g : Strm × List D => ∃ js : List Ins, g.2 = js.map insD ∧ js.length = 0 + k + 1 ∧ (∀ (j : Nat) (i : Ins), js[j]? = some i → j + 1 = many → i.isEnd = true) ∧ ∀ as : List Int, as.length = pl.length → ∀ i ∈ js, i.ok as 8 loc many := fun s => by
      repeat refine N.Ok.b2 ?_
      repeat (refine N.Ok.i ?_; try dsimp only)
      refine pick_i ?_ fun z hz s' => ?_
      · simp
      have hz : ∃ m : Nat, z = (m : Int) ∧ 0 < m ∧ m ≤ 8 := by
        simp only [List.mem_cons, List.not_mem_nil, or_false] at hz
        exact ⟨z.toNat, by omega, by omega, by omega⟩
      obtain ⟨m, rfl, hm⟩ := hz
      dsimp only
      exact instr_i hpl hsl hm fun i s' hi => app i s' (fun z => absurd z (by omega)) hi
    dsimp only
    refine N.Ok.b2 (N.Ok.ite (fun c4 => ?_) fun c4 => ?_)
    · refine N.Ok.b2 (draw_i ?_ fun z s6 hz => ?_)
      · omega
      repeat (refine N.Ok.i ?_; try dsimp only)
      refine N.Ok.ite (fun c5 => ?_) fun c5 => ins s6
      repeat refine N.Ok.b2 ?_
      repeat (refine N.Ok.i ?_; try dsimp only)
      refine pick_i ?_ fun p hp s7 => ?_
      · simp
      repeat (refine N.Ok.i ?_; try dsimp only)
      simp only [List.mem_cons, List.not_mem_nil, or_false] at hp
      rcases hp with rfl | rfl
      · exact app .exit s7 (fun _ => rfl) fun as h => trivial
      · obtain ⟨t, ht⟩ : ∃ t : Nat, (if ((many : Int) - 1) < ((k : Int) + 2) then (many : Int) - 1 else (k : Int) + 2) = (t : Int) ∧ t < many := ⟨(if ((many : Int) - 1) < ((k : Int) + 2) then (many : Int) - 1 else (k : Int) + 2).toNat, by split <;> omega, by split <;> omega⟩
        rw [ht.1]
        exact app (.jump t) s7 (fun _ => rfl) fun as h => ht.2
    · refine N.Ok.i ?_
      dsimp only
      exact N.Ok.iteB (fun z => by cases z) fun _ => ins s5
  · rintro ⟨s5, rows⟩ ⟨js, hr, hl, hend, hok⟩
    dsimp only at hr
    subst hr
    simp only [rangeN_len, Int.toNat_natCast, Nat.zero_add] at hl
    repeat refine N.Ok.b2 ?_
    repeat refine N.Ok.b ?_
    repeat (refine N.Ok.i ?_; try dsimp only)
    rw [toD_tuD]
    refine fin ⟨paramsD pl, sharedD sl, loc, js⟩ _ ⟨⟨pl, rfl, hpl, fun as ha i hi => ?_⟩, by show loc ≤ 10; omega, by show 0 < js.length; omega, by show js.length ≤ 1000; omega, fun j i hj he => hend j i hj (by have he : j + 1 = js.length := he; omega)⟩
    show i.ok as 8 loc js.length
    rw [hl]
    exact hok as ha i hi
theorem words_i {s : Strm} {n : Nat} (hn : n ≤ 1000) : (noE (lcS (fun (_ : Int) => (N.ok true)) (fun (_ : Int) (s3 : Strm) => noE (N_law_word s3)) 0 (rangeN 0 n) s)).Ok fun p => p.1.length = n ∧ ∀ w ∈ p.1, isW w := by
  refine N.Ok.noE ((lcS_all (P := isW) (fun x _ s => word_i fun w s' hw => hw) (by simp; omega)).imp fun p hp => ⟨by simpa using hp.1, hp.2⟩)
theorem launch_i {s : Strm} {c : Code} {pl : List (List Nat × List Nat)} (hc : c.ps = paramsD pl) (hpl : pl.length ≤ 10) {Q : P4 Int Int (Tu Int) (Tu (Tu Int)) × Strm → Prop}
    (fin : ∀ (g b : Nat) (as : List Int) bs s', 0 < g → g ≤ 2 → 0 < b → b ≤ 3 → as.length = pl.length → (∀ a ∈ as, isW a) → Q (⟨(g : Int), (b : Int), ⟨as⟩, bs⟩, s')) : (noE (N_law_launch s (codeD c))).Ok Q := by
  refine N.Ok.noE ?_
  unfold N_law_launch
  repeat refine N.Ok.b2 ?_
  refine draw_i ?_ fun nb s1 hnb => ?_
  · omega
  refine N.Ok.i ?_
  dsimp only
  refine N.Ok.b (.rng ?_ (.i ?_))
  · omega
  dsimp only
  refine (N.Ok.noE (lcS_all (P := fun _ => True) (fun x _ s => ?_) (by simp; omega))).imp ?_
  · repeat refine N.Ok.b2 ?_
    refine draw_i ?_ fun m s2 hm => ?_
    · omega
    dsimp only
    refine N.Ok.b (.rng ?_ (.i ?_))
    · omega
    dsimp only
    rw [Int.toNat_natCast]
    exact (words_i (by omega)).imp fun p hp => .i trivial
  rintro ⟨bufs, s2⟩ ⟨hbl, _⟩
  have hbl2 : bufs.length ≤ 3 := by simp at hbl; omega
  have hbl1 : 0 < bufs.length := by simp at hbl; omega
  refine N.Ok.i ?_
  dsimp only
  repeat refine N.Ok.b2 ?_
  have e1 : (codeD c).ix 0 = .ok (paramsD pl) := by rw [← hc]; rfl
  have e2 : castN D.as2 (pl.map paramD) = .ok (pl.map fun p => (⟨.str p.1, .str p.2⟩ : P2 D D)) := by
    clear hpl hc fin e1
    induction pl with
    | nil => rfl
    | cons p ps ih => rw [List.map_cons]; unfold castN; rw [ih]; rfl
  refine N.Ok.b (.b (.b (.eq e1 (.i (.i ?_)))))
  refine N.Ok.eq e2 (.i (.i ?_))
  dsimp only
  refine (N.Ok.noE (lcS_all (P := isW) (fun x hx s => ?_) (by simp; omega))).imp ?_
  · obtain ⟨p, hp, rfl⟩ := List.mem_map.mp hx
    refine N.Ok.b2 (.b (.i (.i ?_)))
    dsimp only
    refine N.Ok.iteB (fun _ => ?_) fun _ => ?_
    · repeat refine N.Ok.b2 ?_
      refine word_i fun w s' hw => ?_
      repeat (refine N.Ok.i ?_; try dsimp only)
      refine pick_i (by simp) fun x hx _ => ?_
      simp only [List.mem_cons, List.not_mem_nil, or_false] at hx
      show isW x
      unfold isW at hw ⊢
      omega
    · refine draw_i (by omega) fun k _ hk => ?_
      show isW (k : Int)
      unfold isW
      omega
  rintro ⟨as, s3⟩ ⟨hal, haw⟩
  refine N.Ok.i ?_
  dsimp only
  repeat refine N.Ok.b2 ?_
  refine draw_i ?_ fun g s4 hg => ?_
  · omega
  refine N.Ok.i ?_
  dsimp only
  repeat refine N.Ok.b2 ?_
  refine draw_i ?_ fun b s5 hb => ?_
  · omega
  refine N.Ok.i (.i (.i ?_))
  dsimp only
  have := fin (1 + g) (1 + b) as ⟨bufs⟩ s5 (by omega) (by omega) (by omega) (by omega) (by simpa using hal) haw
  simp only [Int.natCast_add, Int.natCast_one] at this
  exact this
end
end Lw

set_option Elab.async false
set_option linter.all false
set_option maxRecDepth 100000
set_option maxHeartbeats 8000000
/-! K15e: the law -/
namespace Lw
open Sx Wd Nx
open Nx.Enc (enc arg red)
open Nx.ToD (toD)
noncomputable section
theorem law_behind_eq {c : Code} {l : Lane} {n g b : Nat} {as : List Int} {bs : D} {w : Int} (G : Good c l as b) :
    N_law_behind (codeD c) (launchD g b as bs) (n : Int) (laneD l) w = .ok (laneD (behL l n g b as w (c.rows[l.pc]'G.pc))) := by
  refine nOf_of fun h => ?_
  obtain ⟨h', e, s⟩ := behind_M (n := n) (g := g) (bs := bs) (w := w) G h
  exact trunc_of e ⟨s.1, fun j hj _ => s.2 j hj⟩
theorem okD_lane (l : Lane) (h1 : l.ws.length ≤ 1000) (h2 : l.cs.length ≤ 1000) : okD 3 (laneD l).enc = true := by
  have e : (laneD l).enc = .tup [.int l.pc, .tup (iV l.ws), .tup (iV l.cs)] := by show Val.tup [.int l.pc, .tup (D.encs (iD l.ws)), .tup (D.encs (iD l.cs))] = _; rw [iV_iD, iV_iD]
  have a : ∀ (xs : List Int) d, (iV xs).all (okD d) = true := fun xs d => by
    unfold iV
    rw [List.all_map, List.all_eq_true]
    intro x _
    cases d <;> rfl
  rw [e]
  simp [okD, a, iV_len]
  omega
theorem okD_req (l : Lane) (i : Ins) : okD 3 (reqD l i).enc = true := by
  cases i <;> simp [reqD, D.enc, D.encs, okD]
theorem same_of {a : D} (k : okD 3 a.enc = true) : N_law_same a a = .ok true := N_same_of rfl k
structure Inv (c : Code) (l : Lane) : Prop where
  pc : l.pc < c.rows.length
  ws : l.ws.length = 8
  cs : l.cs.length = c.loc
  ww : ∀ w ∈ l.ws, isW w
  cw : ∀ w ∈ l.cs, isW w
theorem spV_w {s : List Nat} {n g b : Nat} (hn : n < 1000) (hg : g < 1000) (hb : 0 < b) (hb2 : b < 1000) : isW (spV s n g b) := by
  unfold spV isW
  have h1 : 0 ≤ (n : Int) % b := Int.emod_nonneg _ (by omega)
  have h2 : (n : Int) % b < b := Int.emod_lt_of_pos _ (by omega)
  have h3 : 0 ≤ (n : Int) / b := Int.ediv_nonneg (by omega) (by omega)
  have h4 : (n : Int) / b ≤ n := Int.ediv_le_self _ (by omega)
  repeat' split
  all_goals omega
theorem unW_w {op : List Nat} {a : Int} : isW (unW op a) := by
  unfold unW
  split
  · exact wrap_w _
  split
  · exact wrap_w _
  · unfold b2 isW; split <;> omega
theorem get_w {xs : List Int} (h : ∀ w ∈ xs, isW w) (r : Nat) : isW (xs.getD r 0) := by
  rw [List.getD_eq_getElem?_getD]
  cases e : xs[r]? with
  | none => exact ⟨by decide, by decide⟩
  | some x => exact h x (List.mem_of_getElem? e)
theorem set_w {xs : List Int} {k : Nat} {v : Int} (h : ∀ w ∈ xs, isW w) (hv : isW v) : ∀ w ∈ xs.set k v, isW w := fun w hw => by
  rcases List.mem_or_eq_of_mem_set hw with z | z
  · exact h w z
  · rw [z]; exact hv
theorem resW_w {l : Lane} {n g b many : Nat} {as : List Int} {w : Int} {i : Ins} {p : Nat × Int} (ok : i.ok as l.ws.length l.cs.length many) (h1 : ∀ w ∈ l.ws, isW w) (h2 : ∀ w ∈ l.cs, isW w) (h3 : ∀ a ∈ as, isW a) (hw : isW w) (hn : n < 1000) (hg : g < 1000) (hb : 0 < b) (hb2 : b < 1000)
    (e : resW l n g b as w i = some p) : isW p.2 := by
  cases i <;> simp only [resW, Ins.ok, Option.some.injEq, reduceCtorEq] at e ok <;> subst e
  · exact ok.2
  · exact get_w h3 _
  · exact spV_w hn hg hb hb2
  · exact get_w h1 _
  · exact unW_w
  · exact binW_w (get_w h1 _) (get_w h1 _) _
  · exact get_w h2 _
  · exact hw
  · exact hw
theorem inv_beh {c : Code} {l : Lane} {n g b : Nat} {as : List Int} {w : Int} (C : GoodC c) (I : Inv c l) (hok : ∀ i ∈ c.rows, i.ok as 8 c.loc c.rows.length) (h3 : ∀ a ∈ as, isW a) (hw : isW w) (hn : n < 1000) (hg : g < 1000) (hb : 0 < b) (hb2 : b < 1000) :
    Inv c (behL l n g b as w (c.rows[l.pc]'I.pc)) := by
  have ok := hok _ (List.getElem_mem I.pc)
  have nl : (c.rows[l.pc]'I.pc).isEnd = false → l.pc + 1 < c.rows.length := fun e => by
    have hp := I.pc
    by_cases z : l.pc + 1 = c.rows.length
    · have := C.last l.pc _ (List.getElem?_eq_getElem I.pc) z
      rw [e] at this; cases this
    · omega
  generalize c.rows[l.pc]'I.pc = i at ok nl ⊢
  have ok' : i.ok as l.ws.length l.cs.length c.rows.length := by rw [I.ws, I.cs]; exact ok
  have rw_ := fun p => resW_w (n := n) (g := g) (b := b) (w := w) (p := p) ok' I.ww I.cw h3 hw hn hg hb hb2
  have key : ∀ o, (∀ p, o = some p → isW p.2) → i.isEnd = false → Inv c (resL l o) := fun o ho he => by
    cases o with
    | none => exact ⟨nl he, I.ws, I.cs, I.ww, I.cw⟩
    | some p => exact ⟨nl he, by show (l.ws.set _ _).length = 8; rw [List.length_set]; exact I.ws, I.cs, set_w I.ww (ho p rfl), I.cw⟩
  cases i
  case exit => exact I
  case jump t => exact ⟨ok, I.ws, I.cs, I.ww, I.cw⟩
  case branch r t e =>
    refine ⟨?_, I.ws, I.cs, I.ww, I.cw⟩
    show (if wd l r ≠ 0 then t else l.pc + 1) < _
    split
    · exact ok.2
    · exact nl rfl
  case keep k r => exact ⟨nl rfl, I.ws, by show (l.cs.set _ _).length = _; rw [List.length_set]; exact I.cs, I.ww, set_w I.cw (get_w I.ww r)⟩
  all_goals exact key _ rw_ rfl
end
end Lw

set_option Elab.async false
set_option linter.all false
set_option maxRecDepth 100000
set_option maxHeartbeats 8000000
/-! K15f: the law holds -/
namespace Lw
open Sx Wd Nx
open Nx.Enc (enc arg red)
open Nx.ToD (toD)
noncomputable section
theorem rep_0 (n : Nat) : repV (n : Int) [(0 : Int)] = List.replicate n 0 := by
  unfold repV
  rw [Int.toNat_natCast]
  induction n with
  | zero => rfl
  | succ n ih => rw [List.replicate_succ, List.flatten_cons, ih, List.replicate_succ]; rfl
theorem mul_0 {n : Nat} (h : n ≤ 1000) : mulT (⟨[(0 : Int)]⟩ : Tu Int) (n : Int) = .ok ⟨List.replicate n 0⟩ := by
  unfold mulT
  rw [N.chk_t ⟨rfl, by omega, by omega, by simp⟩, rep_0]
def lane0 (c : Code) : Lane := ⟨0, List.replicate 8 0, List.replicate c.loc 0⟩
theorem first_eq {c : Code} (C : GoodC c) : N_first_lane (codeD c) = .ok (laneD (lane0 c)) := by
  have h8 : mulT (⟨[(0 : Int)]⟩ : Tu Int) 8 = .ok ⟨List.replicate 8 0⟩ := mul_0 (n := 8) (by decide)
  have hl := mul_0 (n := c.loc) (Nat.le_trans C.loc (by decide))
  have e2 : (codeD c).ix 2 = .ok (.int c.loc) := rfl
  simp [N_first_lane, h8, hl, e2, laneD, lane0, iD]
def Ins.lc : Ins → Bool
  | .load _ _ _ => true
  | .collect _ _ _ _ => true
  | _ => false
theorem ask_0 (l : Lane) (i : Ins) : ∃ k, (reqD l i).ix 0 = .ok (.str k) ∧ memB k [[108, 111, 97, 100], [99, 111, 108, 108, 101, 99, 116]] = i.lc := by
  cases i <;> exact ⟨_, rfl, by simp [Ins.lc]⟩
theorem beh_w {l : Lane} {n g b : Nat} {as : List Int} {w w' : Int} {i : Ins} (h : i.lc = false) : behL l n g b as w i = behL l n g b as w' i := by
  cases i <;> first | rfl | cases h
theorem law_Ok {script : List Int} (hs : script.length ≤ 63) : (N_law script).Ok fun k => k = true := by
  unfold N_law
  refine N.Ok.b (.noE ?_)
  refine ⟨newS script, if_pos hs, ?_⟩
  refine N.Ok.b2 (code_i fun c s1 C => ?_)
  obtain ⟨pl, hps, hpl, hok⟩ := C.ps
  dsimp only
  refine N.Ok.b2 ?_
  refine launch_i hps hpl ?_
  intro g b as bs s2 hg hg2 hb hb2 hal haw
  have hok := hok as hal
  dsimp only
  refine N.Ok.b2 (N.Ok.b2 ?_)
  refine N.Ok.b ?_
  refine N.Ok.mul ?_ (.i ?_)
  · omega
  dsimp only
  have hgb : ∃ m : Nat, (g : Int) * (b : Int) = (m : Int) ∧ 0 < m ∧ m ≤ 6 := ⟨g * b, by simp, Nat.mul_pos hg hb, Nat.mul_le_mul hg2 hb2⟩
  obtain ⟨m, hm, hm0, hm6⟩ := hgb
  rw [hm]
  refine draw_i ?_ fun n s3 hn => ?_
  · omega
  dsimp only
  have hn' : n < 1000 := by omega
  refine N.Ok.b (.noE (.eq (first_eq C) (.i ?_)))
  have I0 : Inv c (lane0 c) := ⟨C.r0, by simp [lane0], by simp [lane0], fun w hw => by
    have := List.eq_of_mem_replicate hw
    rw [this]; exact ⟨by decide, by decide⟩, fun w hw => by
    have := List.eq_of_mem_replicate hw
    rw [this]; exact ⟨by decide, by decide⟩⟩
  have okL : ∀ l, Inv c l → okD 3 (laneD l).enc = true := fun l I => okD_lane l (by rw [I.ws]; decide) (by rw [I.cs]; exact Nat.le_trans C.loc (by decide))
  have GI : ∀ l, Inv c l → Good c l as b := fun l I => ⟨I.pc, fun i hi => by rw [I.ws, I.cs]; exact hok i hi, I.ww, I.cw, hb, by omega, by rw [I.ws]; decide, by rw [I.cs]; exact Nat.le_trans C.loc (by decide), C.r1⟩
  have OI : ∀ l (I : Inv c l), (c.rows[l.pc]'I.pc).ok as l.ws.length l.cs.length c.rows.length := fun l I => (GI l I).ok _ (List.getElem_mem I.pc)
  have e2 : (codeD c).ix 2 = .ok (.int c.loc) := rfl
  have e3 : (codeD c).ix 3 = .ok (.tup (c.rows.map insD)) := rfl
  have h8 : mulT (⟨[(0 : Int)]⟩ : Tu Int) 8 = .ok ⟨List.replicate 8 0⟩ := mul_0 (n := 8) (by decide)
  have hl := mul_0 (n := c.loc) (Nat.le_trans C.loc (by decide))
  have tl : toD (⟨(g : Int), (b : Int), ⟨as⟩, bs⟩ : P4 Int Int (Tu Int) (Tu (Tu Int))) = launchD g b as (toD bs) := rfl
  have first : ((((((((szN ((0 : Int) :: ([] : List Int))).bind fun t10 => (N.ok (Tu.mk t10))).bind fun t11 => (mulT t11 (8 : Int))).bind fun t12 => (N.ok (toD t12))).bind fun t19 => ((((((szN ((0 : Int) :: ([] : List Int))).bind fun t13 => (N.ok (Tu.mk t13))).bind fun t15 => (((D.ix (codeD c) (2 : Int)).bind fun t14 => (D.asI t14)).bind fun t16 => (mulT t15 t16))).bind fun t17 => (N.ok (toD t17))).bind fun t18 => (N.ok (t18 :: ([] : List D)))).bind fun t20 => (N.ok (t19 :: t20)))).bind fun t21 => (N.ok ((toD (0 : Int)) :: t21))).bind fun t22 => ((szN t22).bind fun t23 => (N.ok (D.tup t23))))) = .ok (laneD (lane0 c)) := by
    simp [h8, hl, e2, laneD, lane0, iD]
  refine N.Ok.b (.b (.b (.eq first (.i (.noE (.eq (same_of (okL _ I0)) (.i (.i ?_))))))))
  refine N.Ok.iteB (fun z => by cases z) fun _ => ?_
  refine N.Ok.b (.rng ?_ ?_)
  · decide
  refine N.Ok.b ((forC_inv (fun g : Strm × D => ∃ l, g.2 = laneD l ∧ Inv c l) ⟨lane0 c, rfl, I0⟩ ?_).imp ?_)
  · rintro x ⟨st, lane⟩ _ ⟨l, hL, I⟩
    dsimp only at hL
    subst hL
    have G := GI l I
    refine N.Ok.b (.noE (.eq (law_request_eq I.pc (OI l I)) (.i ?_)))
    refine N.Ok.b (.b (.b (.noE (.eq (request_eq I.pc (OI l I)) (.i (.noE (.eq (same_of (okD_req _ _)) (.i (.i ?_)))))))))
    refine N.Ok.iteB (fun z => by cases z) fun _ => ?_
    refine N.Ok.b2 (word_i fun w s4 hw => ?_)
    dsimp only
    rw [tl]
    have I2 := inv_beh (w := w) C I hok haw hw hn' (by omega : g < 1000) hb (by omega : b < 1000)
    refine N.Ok.b (.noE (.eq (law_behind_eq G) (.i ?_)))
    refine N.Ok.b (.b (.b (.noE (.eq (behind_eq G) (.i (.noE (.eq (same_of (okL _ I2)) (.i (.i ?_)))))))))
    refine N.Ok.iteB (fun z => by cases z) fun _ => ?_
    obtain ⟨ak, a1, a2⟩ := ask_0 l (c.rows[l.pc]'I.pc)
    refine N.Ok.b (.b (.b (.b (.eq a1 (.i (.i (.b (.sz ?_ (.i ?_))))))))) 
    · simp
    rw [a2]
    have other : ∀ w' : Int, (c.rows[l.pc]'I.pc).lc = false → (((noE (N_behind (codeD c) (launchD g b as (toD bs)) (n : Int) (laneD l) w')).bind fun t70 => (noE (N_law_same t70 (laneD (behL l n g b as w (c.rows[l.pc]'I.pc)))))).bind fun t73 => (N.ok (!t73))) = .ok false := fun w' hlc => by
      rw [behind_eq G, beh_w (w' := w) hlc]
      simp [same_of (okL _ I2)]
    have key : (if (!(c.rows[l.pc]'I.pc).lc) = true then (((if decide (w < 5) = true then N.ok (w + 1) else N.ok 0).bind fun t69 => noE (N_behind (codeD c) (launchD g b as (toD bs)) (n : Int) (laneD l) t69)).bind fun t70 => noE (N_law_same t70 (laneD (behL l n g b as w (c.rows[l.pc]'I.pc))))).bind fun t73 => N.ok (!t73) else N.ok false) = N.ok false := by
      cases hlc : (c.rows[l.pc]'I.pc).lc with
      | true => rfl
      | false =>
        by_cases hw5 : w < 5
        · simp only [hw5, decide_true, if_true, N.ok_bind, Bool.not_false]; exact other _ hlc
        · simp only [hw5, decide_false, if_false, if_true, N.ok_bind, Bool.not_false, Bool.false_eq_true]; exact other _ hlc
    refine .eq key (.i (.iteB (fun z => by cases z) fun _ => ?_))
    have elen : (D.tup (c.rows.map insD)).len = .ok (c.rows.length : Int) := by show N.ok (((c.rows.map insD).length : Nat) : Int) = _; rw [List.length_map]
    refine N.Ok.b2 (.b2 (.b (.b (.eq e3 (.i (.eq elen (.i (.i ?_))))))))
    dsimp only
    have hr0 := C.r0
    have hr1 := C.r1
    refine draw_i ?_ fun k s5 hk => ?_
    · omega
    dsimp only
    refine N.Ok.b2 (.b2 (.b2 (.b2 (.b2 (.b2 (.b2 (.b (.rng ?_ (.i ?_)))))))))
    · decide
    dsimp only
    refine (words_i (n := 8) (by decide)).imp ?_
    rintro ⟨ws, s6⟩ ⟨hwl, hww⟩
    dsimp only at hwl hww
    refine N.Ok.i (.i ?_)
    dsimp only
    refine N.Ok.b2 (.b2 (.b2 (.b2 (.b2 (.b (.b (.b (.eq e2 (.i (.i (.rng ?_ (.i ?_))))))))))))
    · have := C.loc; omega
    dsimp only
    rw [Int.toNat_natCast]
    refine (words_i (n := c.loc) (Nat.le_trans C.loc (by decide))).imp ?_
    rintro ⟨cs, s7⟩ ⟨hcl, hcw⟩
    dsimp only at hcl hcw
    have ID : Inv c ⟨k, ws, cs⟩ := ⟨by show k < _; omega, hwl, hcl, hww, hcw⟩
    have GD := GI _ ID
    have ID2 := inv_beh (w := w) C ID hok haw hw hn' (by omega : g < 1000) hb (by omega : b < 1000)
    refine N.Ok.i (.i (.i (.i (.i (.b (.b (.sz ?_ (.i (.i ?_)))))))))
    · simp
    dsimp only
    have ed : (D.tup [toD (k : Int), toD (⟨ws⟩ : Tu Int), toD (⟨cs⟩ : Tu Int)] : D) = laneD ⟨k, ws, cs⟩ := rfl
    rw [ed]
    refine N.Ok.b (.b (.b (.noE (.eq (request_eq ID.pc (OI _ ID)) (.i (.b (.noE (.eq (law_request_eq ID.pc (OI _ ID)) (.i (.noE (.eq (same_of (okD_req _ _)) (.i (.i ?_)))))))))))))
    refine N.Ok.iteB (fun z => by cases z) fun _ => ?_
    refine N.Ok.b (.b (.b (.noE (.eq (behind_eq GD) (.i (.b (.noE (.eq (law_behind_eq GD) (.i (.noE (.eq (same_of (okL _ ID2)) (.i (.i ?_)))))))))))))
    refine N.Ok.iteB (fun z => by cases z) fun _ => ?_
    exact .b (.i (.i ⟨_, rfl, _, rfl, I2⟩))
  · rintro _ ⟨⟨s4, lane⟩, rfl, _⟩
    exact ⟨true, rfl, rfl⟩
theorem law_true {ns : List Int} (hl : ns.length ≤ 63) (h : Hv) : Ok (M_law [.kl (iV ns)] h) fun v _ => v = .bl true := by
  obtain ⟨k, e, rfl⟩ := law_Ok hl
  have := d_law h ns
  rw [e] at this
  obtain ⟨h1, e1⟩ := trunc_inv (show trunc M_law [.kl (ns.map enc)] h = .ok (.bl true) h from this)
  exact ⟨_, h1, e1, rfl⟩
end
end Lw

set_option Elab.async false
set_option linter.all false
set_option maxRecDepth 100000
set_option maxHeartbeats 4000000
namespace Lw
open PySem PySem.Spec L2 Sx
open PyProof.Rows hiding St
def topS (i : Nat) : Stmt := PySem.Challenge.pw_drawever_k15_whole_lanes.main.body.getD i (.Pass ⟨0, 0, 0, 0⟩)
structure Txt (K : PySem.W.Frag) (mg : Str → Option Value) : Prop where
  b_abs : mg "abs" = none
  b_all : mg "all" = none
  b_bool : mg "bool" = none
  b_int : mg "int" = none
  b_isinstance : mg "isinstance" = none
  b_len : mg "len" = none
  b_list : mg "list" = none
  b_max : mg "max" = none
  b_min : mg "min" = none
  b_range : mg "range" = none
  b_str : mg "str" = none
  b_tuple : mg "tuple" = none
  c_GREATEST : KConst K mg "GREATEST" c_GREATEST
  c_MODULUS : KConst K mg "MODULUS" c_MODULUS
  c_REGISTERS : KConst K mg "REGISTERS" c_REGISTERS
abbrev s_law_stream : Stmt := topS 20
abbrev n_law_stream : List Str := ["script", "mixed", "cell"]
abbrev p_law_stream : List Str := ["script"]
theorem sc_law_stream : FnScope n_law_stream p_law_stream (defScope s_law_stream) := ⟨rfl, rfl, rfl, by decide +kernel, rfl, by decide +kernel, by decide +kernel⟩
abbrev s_law_draw : Stmt := topS 21
abbrev n_law_draw : List Str := ["stream", "many", "value"]
abbrev p_law_draw : List Str := ["stream", "many"]
theorem sc_law_draw : FnScope n_law_draw p_law_draw (defScope s_law_draw) := ⟨rfl, rfl, rfl, by decide +kernel, rfl, by decide +kernel, by decide +kernel⟩
abbrev s_law_pick : Stmt := topS 22
abbrev n_law_pick : List Str := ["stream", "rows"]
abbrev p_law_pick : List Str := ["stream", "rows"]
theorem sc_law_pick : FnScope n_law_pick p_law_pick (defScope s_law_pick) := ⟨rfl, rfl, rfl, by decide +kernel, rfl, by decide +kernel, by decide +kernel⟩
abbrev s_law_word : Stmt := topS 29
abbrev n_law_word : List Str := ["stream"]
abbrev p_law_word : List Str := ["stream"]
theorem sc_law_word : FnScope n_law_word p_law_word (defScope s_law_word) := ⟨rfl, rfl, rfl, by decide +kernel, rfl, by decide +kernel, by decide +kernel⟩
abbrev s_law_operators : Stmt := topS 24
abbrev n_law_operators : List Str := ["kind"]
abbrev p_law_operators : List Str := ["kind"]
theorem sc_law_operators : FnScope n_law_operators p_law_operators (defScope s_law_operators) := ⟨rfl, rfl, rfl, by decide +kernel, rfl, by decide +kernel, by decide +kernel⟩
abbrev s_law_instruction : Stmt := topS 34
abbrev n_law_instruction : List Str := ["stream", "graph_params", "shared", "many", "d", "r", "s", "ints", "arrays", "pick", "k"]
abbrev p_law_instruction : List Str := ["stream", "graph_params", "shared", "many"]
theorem sc_law_instruction : FnScope n_law_instruction p_law_instruction (defScope s_law_instruction) := ⟨rfl, rfl, rfl, by decide +kernel, rfl, by decide +kernel, by decide +kernel⟩
abbrev s_law_code : Stmt := topS 35
abbrev n_law_code : List Str := ["stream", "params", "shared", "local", "many", "rows", "k", "pick"]
abbrev p_law_code : List Str := ["stream"]
theorem sc_law_code : FnScope n_law_code p_law_code (defScope s_law_code) := ⟨rfl, rfl, rfl, by decide +kernel, rfl, by decide +kernel, by decide +kernel⟩
abbrev s_law_launch : Stmt := topS 30
abbrev n_law_launch : List Str := ["stream", "kernel", "buffers", "arguments", "k", "name", "sort", "j"]
abbrev p_law_launch : List Str := ["stream", "kernel"]
theorem sc_law_launch : FnScope n_law_launch p_law_launch (defScope s_law_launch) := ⟨rfl, rfl, rfl, by decide +kernel, rfl, by decide +kernel, by decide +kernel⟩
abbrev s_first_lane : Stmt := topS 14
abbrev n_first_lane : List Str := ["code"]
abbrev p_first_lane : List Str := ["code"]
theorem sc_first_lane : FnScope n_first_lane p_first_lane (defScope s_first_lane) := ⟨rfl, rfl, rfl, by decide +kernel, rfl, by decide +kernel, by decide +kernel⟩
abbrev s_law_same : Stmt := topS 23
abbrev n_law_same : List Str := ["told", "due", "k"]
abbrev p_law_same : List Str := ["told", "due"]
theorem sc_law_same : FnScope n_law_same p_law_same (defScope s_law_same) := ⟨rfl, rfl, rfl, by decide +kernel, rfl, by decide +kernel, by decide +kernel⟩
abbrev s_law_request : Stmt := topS 36
abbrev n_law_request : List Str := ["code", "lane", "one", "r"]
abbrev p_law_request : List Str := ["code", "lane"]
theorem sc_law_request : FnScope n_law_request p_law_request (defScope s_law_request) := ⟨rfl, rfl, rfl, by decide +kernel, rfl, by decide +kernel, by decide +kernel⟩
abbrev s_request : Stmt := topS 15
abbrev n_request : List Str := ["code", "lane", "at", "words", "_", "instruction", "word"]
abbrev p_request : List Str := ["code", "lane"]
theorem sc_request : FnScope n_request p_request (defScope s_request) := ⟨rfl, rfl, rfl, by decide +kernel, rfl, by decide +kernel, by decide +kernel⟩
abbrev s_law_wrapped : Stmt := topS 25
abbrev n_law_wrapped : List Str := ["number"]
abbrev p_law_wrapped : List Str := ["number"]
theorem sc_law_wrapped : FnScope n_law_wrapped p_law_wrapped (defScope s_law_wrapped) := ⟨rfl, rfl, rfl, by decide +kernel, rfl, by decide +kernel, by decide +kernel⟩
abbrev s_law_unary : Stmt := topS 28
abbrev n_law_unary : List Str := ["op", "a"]
abbrev p_law_unary : List Str := ["op", "a"]
theorem sc_law_unary : FnScope n_law_unary p_law_unary (defScope s_law_unary) := ⟨rfl, rfl, rfl, by decide +kernel, rfl, by decide +kernel, by decide +kernel⟩
abbrev s_law_bits : Stmt := topS 27
abbrev n_law_bits : List Str := ["op", "a", "b", "found", "power", "k", "one", "two", "bit"]
abbrev p_law_bits : List Str := ["op", "a", "b"]
theorem sc_law_bits : FnScope n_law_bits p_law_bits (defScope s_law_bits) := ⟨rfl, rfl, rfl, by decide +kernel, rfl, by decide +kernel, by decide +kernel⟩
abbrev s_law_binary : Stmt := topS 26
abbrev n_law_binary : List Str := ["op", "a", "b", "quotient", "power", "k"]
abbrev p_law_binary : List Str := ["op", "a", "b"]
theorem sc_law_binary : FnScope n_law_binary p_law_binary (defScope s_law_binary) := ⟨rfl, rfl, rfl, by decide +kernel, rfl, by decide +kernel, by decide +kernel⟩
abbrev s_law_done : Stmt := topS 33
abbrev n_law_done : List Str := ["world", "number", "one", "thread", "r", "launch", "d", "a", "index", "word", "space", "cells", "is_there"]
abbrev p_law_done : List Str := ["world", "number", "one"]
theorem sc_law_done : FnScope n_law_done p_law_done (defScope s_law_done) := ⟨rfl, rfl, rfl, by decide +kernel, rfl, by decide +kernel, by decide +kernel⟩
abbrev s_law_behind : Stmt := topS 37
abbrev n_law_behind : List Str := ["code", "launch", "number", "lane", "word", "one", "at", "registers", "cells", "thread"]
abbrev p_law_behind : List Str := ["code", "launch", "number", "lane", "word"]
theorem sc_law_behind : FnScope n_law_behind p_law_behind (defScope s_law_behind) := ⟨rfl, rfl, rfl, by decide +kernel, rfl, by decide +kernel, by decide +kernel⟩
abbrev s_changed : Stmt := topS 16
abbrev n_changed : List Str := ["row", "at", "word"]
abbrev p_changed : List Str := ["row", "at", "word"]
theorem sc_changed : FnScope n_changed p_changed (defScope s_changed) := ⟨rfl, rfl, rfl, by decide +kernel, rfl, by decide +kernel, by decide +kernel⟩
abbrev s_special : Stmt := topS 11
abbrev n_special : List Str := ["name", "thread", "launch", "grid", "block", "_"]
abbrev p_special : List Str := ["name", "thread", "launch"]
theorem sc_special : FnScope n_special p_special (defScope s_special) := ⟨rfl, rfl, rfl, by decide +kernel, rfl, by decide +kernel, by decide +kernel⟩
abbrev s_wrapped : Stmt := topS 3
abbrev n_wrapped : List Str := ["number", "rest"]
abbrev p_wrapped : List Str := ["number"]
theorem sc_wrapped : FnScope n_wrapped p_wrapped (defScope s_wrapped) := ⟨rfl, rfl, rfl, by decide +kernel, rfl, by decide +kernel, by decide +kernel⟩
abbrev s_unary : Stmt := topS 9
abbrev n_unary : List Str := ["op", "a"]
abbrev p_unary : List Str := ["op", "a"]
theorem sc_unary : FnScope n_unary p_unary (defScope s_unary) := ⟨rfl, rfl, rfl, by decide +kernel, rfl, by decide +kernel, by decide +kernel⟩
abbrev s_divided : Stmt := topS 4
abbrev n_divided : List Str := ["a", "b", "size"]
abbrev p_divided : List Str := ["a", "b"]
theorem sc_divided : FnScope n_divided p_divided (defScope s_divided) := ⟨rfl, rfl, rfl, by decide +kernel, rfl, by decide +kernel, by decide +kernel⟩
abbrev s_arithmetic : Stmt := topS 5
abbrev n_arithmetic : List Str := ["op", "a", "b"]
abbrev p_arithmetic : List Str := ["op", "a", "b"]
theorem sc_arithmetic : FnScope n_arithmetic p_arithmetic (defScope s_arithmetic) := ⟨rfl, rfl, rfl, by decide +kernel, rfl, by decide +kernel, by decide +kernel⟩
abbrev s_bits : Stmt := topS 6
abbrev n_bits : List Str := ["op", "a", "b"]
abbrev p_bits : List Str := ["op", "a", "b"]
theorem sc_bits : FnScope n_bits p_bits (defScope s_bits) := ⟨rfl, rfl, rfl, by decide +kernel, rfl, by decide +kernel, by decide +kernel⟩
abbrev s_compared : Stmt := topS 7
abbrev n_compared : List Str := ["op", "a", "b"]
abbrev p_compared : List Str := ["op", "a", "b"]
theorem sc_compared : FnScope n_compared p_compared (defScope s_compared) := ⟨rfl, rfl, rfl, by decide +kernel, rfl, by decide +kernel, by decide +kernel⟩
abbrev s_binary : Stmt := topS 8
abbrev n_binary : List Str := ["op", "a", "b", "found"]
abbrev p_binary : List Str := ["op", "a", "b"]
theorem sc_binary : FnScope n_binary p_binary (defScope s_binary) := ⟨rfl, rfl, rfl, by decide +kernel, rfl, by decide +kernel, by decide +kernel⟩
abbrev s_result : Stmt := topS 17
abbrev n_result : List Str := ["instruction", "lane", "launch", "thread", "word", "kind", "words"]
abbrev p_result : List Str := ["instruction", "lane", "launch", "thread", "word"]
theorem sc_result : FnScope n_result p_result (defScope s_result) := ⟨rfl, rfl, rfl, by decide +kernel, rfl, by decide +kernel, by decide +kernel⟩
abbrev s_behind : Stmt := topS 18
abbrev n_behind : List Str := ["code", "launch", "thread", "lane", "word", "at", "words", "cells", "instruction", "kind", "following", "found"]
abbrev p_behind : List Str := ["code", "launch", "thread", "lane", "word"]
theorem sc_behind : FnScope n_behind p_behind (defScope s_behind) := ⟨rfl, rfl, rfl, by decide +kernel, rfl, by decide +kernel, by decide +kernel⟩
abbrev s_law : Stmt := topS 38
abbrev n_law : List Str := ["script", "stream", "code", "launch", "number", "lane", "again", "asked", "word", "due", "k", "drawn", "j"]
abbrev p_law : List Str := ["script"]
theorem sc_law : FnScope n_law p_law (defScope s_law) := ⟨rfl, rfl, rfl, by decide +kernel, rfl, by decide +kernel, by decide +kernel⟩
section
variable {P : Program} {w : World} {K : PySem.W.Frag} {mg : Str → Option Value} {base : Heap} {cm : Nat → Addr}
theorem fn_law_stream {f : Addr} {fd : FuncData} (F : Fun K "_law_stream" "_law_stream" s_law_stream f fd) (T : Txt K mg)  : FnS P w K mg base cm 1 f fd p_law_stream M_law_stream :=
  fn_body F sc_law_stream fun cdv A outer s H E hr => show JB _ cm W0 (defBody s_law_stream) _ from (jb_cons (js_set (i := 1) sc_law_stream.nd rfl (by first | exact Or.inl rfl | exact Or.inr rfl) je_int) (jb_cons (js_for (own := [2]) PassesOwn.never rfl (ji_seq (je_var 0)) (jg_name (i := 2) (by decide) sc_law_stream.nd rfl (by first | exact Or.inl rfl | exact Or.inr rfl)) (jb_one (js_set (i := 1) sc_law_stream.nd rfl (by first | exact Or.inl rfl | exact Or.inr rfl) (je_bin op_mod os_mod (je_callTy call_int1 cs_int (by rfl) T.b_int (by decide +kernel) (ja_cons (je_bin op_addX os_addX (je_bin op_addX os_addX (je_bin op_mulX' os_mulX (je_var 1) je_int) (je_bin op_mod os_mod (je_callTy call_int1 cs_int (by rfl) T.b_int (by decide +kernel) (ja_cons (je_var 2) ja_nil)) je_int)) je_int) ja_nil)) je_int)))) (jb_one (js_ret (je_lstN (ja_cons (je_callTy call_list_of cs_list (by rfl) T.b_list (by decide +kernel) (ja_cons (je_var 0) ja_nil)) (ja_cons je_int (ja_cons je_int (ja_cons (je_var 1) ja_nil)))))))))
theorem fn_law_draw {f : Addr} {fd : FuncData} (F : Fun K "_law_draw" "_law_draw" s_law_draw f fd) (T : Txt K mg)  : FnS P w K mg base cm 1 f fd p_law_draw M_law_draw :=
  fn_body F sc_law_draw fun cdv A outer s H E hr => show JB _ cm W0 (defBody s_law_draw) _ from (jb_cons (js_if (jt_w (jw_and (jt_cmp (op_eq' hr.units) os_eq (je_ixD hr.units (je_var 0) je_int) je_int (by rfl)) (jw_and1 (jt_cmp op_lt os_lt (je_ixD hr.units (je_var 0) je_int) (je_callB call_len cs_len (by rfl) T.b_len (by decide +kernel) (ja_cons (je_ixD hr.units (je_var 0) je_int) ja_nil)) (by rfl))))) (jb_cons (js_asg (own := []) (je_callB call_abs cs_abs (by rfl) T.b_abs (by decide +kernel) (ja_cons (je_callTy call_int1 cs_int (by rfl) T.b_int (by decide +kernel) (ja_cons (je_ixD hr.units (je_ixD hr.units (je_var 0) je_int) (je_ixD hr.units (je_var 0) je_int)) ja_nil)) ja_nil)) (jg_sub (je_var 0) je_int)) (jb_one (js_asg (own := []) (je_bin op_addX os_addX (je_ixD hr.units (je_var 0) je_int) je_int) (jg_sub (je_var 0) je_int)))) jb_nil) (jb_cons (js_if (jt_cmp (op_eq' hr.units) os_eq (je_ixD hr.units (je_var 0) je_int) je_int (by rfl)) (jb_cons (js_asg (own := []) (je_bin op_mod os_mod (je_callTy call_int1 cs_int (by rfl) T.b_int (by decide +kernel) (ja_cons (je_bin op_addX os_addX (je_bin op_mulX' os_mulX (je_ixD hr.units (je_var 0) je_int) je_int) je_int) ja_nil)) je_int) (jg_sub (je_var 0) je_int)) (jb_one (js_ret (je_bin op_mod os_mod (je_callTy call_int1 cs_int (by rfl) T.b_int (by decide +kernel) (ja_cons (je_bin op_fdivW os_div (je_ixD hr.units (je_var 0) je_int) je_int) ja_nil)) (je_var 1))))) jb_nil) (jb_cons (js_set (i := 2) sc_law_draw.nd rfl (by first | exact Or.inl rfl | exact Or.inr rfl) (je_bin op_mod os_mod (je_callTy call_int1 cs_int (by rfl) T.b_int (by decide +kernel) (ja_cons (je_ixD hr.units (je_var 0) je_int) ja_nil)) (je_var 1))) (jb_cons (js_asg (own := []) (je_bin op_fdivW os_div (je_ixD hr.units (je_var 0) je_int) (je_var 1)) (jg_sub (je_var 0) je_int)) (jb_one (js_ret (je_var 2)))))))
theorem fn_law_pick {f : Addr} {fd : FuncData} (F : Fun K "_law_pick" "_law_pick" s_law_pick f fd) (T : Txt K mg) (c_law_draw : Cal P w K mg base cm 1 "_law_draw" 2 G_law_draw) : FnS P w K mg base cm 2 f fd p_law_pick M_law_pick :=
  fn_body F sc_law_pick fun cdv A outer s H E hr => show JB _ cm W0 (defBody s_law_pick) _ from (jb_one (js_ret (je_ixD hr.units (je_var 1) (je_fn c_law_draw hr (by decide) (by rfl) (ja_cons (je_var 0) (ja_cons (je_callB call_len cs_len (by rfl) T.b_len (by decide +kernel) (ja_cons (je_var 1) ja_nil)) ja_nil))))))
theorem fn_law_word {f : Addr} {fd : FuncData} (F : Fun K "_law_word" "_law_word" s_law_word f fd) (T : Txt K mg) (c_law_pick : Cal P w K mg base cm 2 "_law_pick" 2 G_law_pick) (c_law_draw : Cal P w K mg base cm 1 "_law_draw" 2 G_law_draw) : FnS P w K mg base cm 3 f fd p_law_word M_law_word :=
  fn_body F sc_law_word fun cdv A outer s H E hr => show JB _ cm W0 (defBody s_law_word) _ from (jb_one (js_ret (je_fn c_law_pick hr (by decide) (by rfl) (ja_cons (je_var 0) (ja_cons (je_lst (ja_cons je_int (ja_cons je_int (ja_cons je_int (ja_cons je_int (ja_cons (je_un un_neg us_neg je_int) (ja_cons je_int (ja_cons je_int (ja_cons (je_un un_neg us_neg je_int) (ja_cons je_int (ja_cons je_int (ja_cons je_int (ja_cons je_int (ja_cons je_int (ja_cons (je_un un_neg us_neg je_int) (ja_cons (je_bin op_sub os_sub (je_bin op_addX os_addX (je_bin op_mulX' os_mulX (je_fn c_law_draw hr (by decide) (by rfl) (ja_cons (je_var 0) (ja_cons je_int ja_nil))) je_int) (je_fn c_law_draw hr (by decide) (by rfl) (ja_cons (je_var 0) (ja_cons je_int ja_nil)))) je_int) ja_nil)))))))))))))))) ja_nil)))))
theorem fn_law_operators {f : Addr} {fd : FuncData} (F : Fun K "_law_operators" "_law_operators" s_law_operators f fd) (T : Txt K mg)  : FnS P w K mg base cm 1 f fd p_law_operators M_law_operators :=
  fn_body F sc_law_operators fun cdv A outer s H E hr => show JB _ cm W0 (defBody s_law_operators) _ from (jb_cons (js_if (jt_cmp (op_eq' hr.units) os_eq (je_var 0) (je_str (by decide +kernel)) (by rfl)) (jb_one (js_ret (je_lst (ja_cons (je_str (by decide +kernel)) (ja_cons (je_str (by decide +kernel)) (ja_cons (je_str (by decide +kernel)) (ja_cons (je_str (by decide +kernel)) (ja_cons (je_str (by decide +kernel)) (ja_cons (je_str (by decide +kernel)) ja_nil))))))))) jb_nil) (jb_cons (js_if (jt_cmp (op_eq' hr.units) os_eq (je_var 0) (je_str (by decide +kernel)) (by rfl)) (jb_one (js_ret (je_lst (ja_cons (je_str (by decide +kernel)) (ja_cons (je_str (by decide +kernel)) (ja_cons (je_str (by decide +kernel)) ja_nil)))))) jb_nil) (jb_one (js_ret (je_lst (ja_cons (je_str (by decide +kernel)) (ja_cons (je_str (by decide +kernel)) (ja_cons (je_str (by decide +kernel)) (ja_cons (je_str (by decide +kernel)) (ja_cons (je_str (by decide +kernel)) (ja_cons (je_str (by decide +kernel)) (ja_cons (je_str (by decide +kernel)) (ja_cons (je_str (by decide +kernel)) (ja_cons (je_str (by decide +kernel)) (ja_cons (je_str (by decide +kernel)) (ja_cons (je_str (by decide +kernel)) (ja_cons (je_str (by decide +kernel)) (ja_cons (je_str (by decide +kernel)) (ja_cons (je_str (by decide +kernel)) (ja_cons (je_str (by decide +kernel)) (ja_cons (je_str (by decide +kernel)) ja_nil)))))))))))))))))))))
theorem fn_law_instruction {f : Addr} {fd : FuncData} (F : Fun K "_law_instruction" "_law_instruction" s_law_instruction f fd) (T : Txt K mg) (c_law_draw : Cal P w K mg base cm 1 "_law_draw" 2 G_law_draw) (c_law_pick : Cal P w K mg base cm 2 "_law_pick" 2 G_law_pick) (c_law_word : Cal P w K mg base cm 3 "_law_word" 1 G_law_word) (c_law_operators : Cal P w K mg base cm 1 "_law_operators" 1 G_law_operators) : FnS P w K mg base cm 4 f fd p_law_instruction M_law_instruction :=
  fn_body F sc_law_instruction fun cdv A outer s H E hr => show JB _ cm W0 (defBody s_law_instruction) _ from (jb_cons (js_set (i := 4) sc_law_instruction.nd rfl (by first | exact Or.inl rfl | exact Or.inr rfl) (je_fn c_law_draw hr (by decide) (by rfl) (ja_cons (je_var 0) (ja_cons (je_var 3) ja_nil)))) (jb_cons (js_set (i := 5) sc_law_instruction.nd rfl (by first | exact Or.inl rfl | exact Or.inr rfl) (je_fn c_law_draw hr (by decide) (by rfl) (ja_cons (je_var 0) (ja_cons (je_var 3) ja_nil)))) (jb_cons (js_set (i := 6) sc_law_instruction.nd rfl (by first | exact Or.inl rfl | exact Or.inr rfl) (je_fn c_law_draw hr (by decide) (by rfl) (ja_cons (je_var 0) (ja_cons (je_var 3) ja_nil)))) (jb_cons (js_setLc (i := 7) (own := [("k", 10)]) rfl sc_law_instruction.nd rfl rfl (sw_true rfl rfl rfl (by decide +kernel)) (ji_range1 (by rfl) T.b_range (je_callB call_len cs_len (by rfl) T.b_len (by decide +kernel) (ja_cons (je_var 1) ja_nil))) (blkOk_by (own := [("k", 10)]) (N := n_law_instruction) (sc := defScope s_law_instruction) (by decide +kernel)) (fun _ _ _ _ _ => (jg_name (i := 10) (by decide) sc_law_instruction.nd rfl (by first | exact Or.inl rfl | exact Or.inr rfl))) (fun _ _ _ _ _ => (jts_one (jt_cmp (op_eq' hr.units) os_eq (je_ixD hr.units (je_ixD hr.units (je_var 1) (je_var 10)) je_int) (je_str (by decide +kernel)) (by rfl)))) (fun _ _ _ _ _ => (je_var 10))) (jb_cons (js_set (i := 8) sc_law_instruction.nd rfl (by first | exact Or.inl rfl | exact Or.inr rfl) (je_bin op_addX os_addX (je_lc (own := [("k", 10)]) rfl sc_law_instruction.nd (ji_range1 (by rfl) T.b_range (je_callB call_len cs_len (by rfl) T.b_len (by decide +kernel) (ja_cons (je_var 1) ja_nil))) (blkOk_by (own := [("k", 10)]) (N := n_law_instruction) (sc := defScope s_law_instruction) (by decide +kernel)) (fun _ _ _ _ _ => (jg_name (i := 10) (by decide) sc_law_instruction.nd rfl (by first | exact Or.inl rfl | exact Or.inr rfl))) (fun _ _ _ _ _ => (jts_one (jt_cmp (op_eq' hr.units) os_eq (je_ixD hr.units (je_ixD hr.units (je_var 1) (je_var 10)) je_int) (je_str (by decide +kernel)) (by rfl)))) (fun _ _ _ _ _ => (je_var 10))) (je_lc (own := [("k", 10)]) rfl sc_law_instruction.nd (ji_range1 (by rfl) T.b_range (je_callB call_len cs_len (by rfl) T.b_len (by decide +kernel) (ja_cons (je_var 2) ja_nil))) (blkOk_by (own := [("k", 10)]) (N := n_law_instruction) (sc := defScope s_law_instruction) (by decide +kernel)) (fun _ _ _ _ _ => (jg_name (i := 10) (by decide) sc_law_instruction.nd rfl (by first | exact Or.inl rfl | exact Or.inr rfl))) (fun _ _ _ _ _ => jts_nil) (fun _ _ _ _ _ => (je_bin op_addX os_addX je_int (je_var 10)))))) (jb_cons (js_set (i := 9) sc_law_instruction.nd rfl (by first | exact Or.inl rfl | exact Or.inr rfl) (je_fn c_law_draw hr (by decide) (by rfl) (ja_cons (je_var 0) (ja_cons je_int ja_nil)))) (jb_cons (js_if (jt_cmp op_lt os_lt (je_var 9) je_int (by rfl)) (jb_one (js_ret (je_tup (ja_cons (je_str (by decide +kernel)) (ja_cons (je_var 4) (ja_cons (je_fn c_law_pick hr (by decide) (by rfl) (ja_cons (je_var 0) (ja_cons (je_lst (ja_cons je_int (ja_cons je_int (ja_cons je_int (ja_cons je_int (ja_cons (je_un un_neg us_neg je_int) (ja_cons (je_fn c_law_word hr (by decide) (by rfl) (ja_cons (je_var 0) ja_nil)) ja_nil))))))) ja_nil))) ja_nil)))))) jb_nil) (jb_cons (js_if (jt_w (jw_and (jt_cmp (op_eq' hr.units) os_eq (je_var 9) je_int (by rfl)) (jw_and1 (jt_tru (je_var 7))))) (jb_one (js_ret (je_tup (ja_cons (je_str (by decide +kernel)) (ja_cons (je_var 4) (ja_cons (je_fn c_law_pick hr (by decide) (by rfl) (ja_cons (je_var 0) (ja_cons (je_var 7) ja_nil))) ja_nil)))))) jb_nil) (jb_cons (js_if (jt_cmp (op_eq' hr.units) os_eq (je_var 9) je_int (by rfl)) (jb_one (js_ret (je_tup (ja_cons (je_str (by decide +kernel)) (ja_cons (je_var 4) (ja_cons (je_fn c_law_pick hr (by decide) (by rfl) (ja_cons (je_var 0) (ja_cons (je_lst (ja_cons (je_str (by decide +kernel)) (ja_cons (je_str (by decide +kernel)) (ja_cons (je_str (by decide +kernel)) (ja_cons (je_str (by decide +kernel)) ja_nil))))) ja_nil))) ja_nil)))))) jb_nil) (jb_cons (js_if (jt_cmp (op_eq' hr.units) os_eq (je_var 9) je_int (by rfl)) (jb_one (js_ret (je_tup (ja_cons (je_str (by decide +kernel)) (ja_cons (je_var 4) (ja_cons (je_var 5) ja_nil)))))) jb_nil) (jb_cons (js_if (jt_cmp (op_eq' hr.units) os_eq (je_var 9) je_int (by rfl)) (jb_one (js_ret (je_tup (ja_cons (je_str (by decide +kernel)) (ja_cons (je_fn c_law_pick hr (by decide) (by rfl) (ja_cons (je_var 0) (ja_cons (je_fn c_law_operators hr (by decide) (by rfl) (ja_cons (je_str (by decide +kernel)) ja_nil)) ja_nil))) (ja_cons (je_var 4) (ja_cons (je_var 5) ja_nil))))))) jb_nil) (jb_cons (js_if (jt_w (jw_and (jt_cmp (op_eq' hr.units) os_eq (je_var 9) je_int (by rfl)) (jw_and1 (jt_tru (je_var 8))))) (jb_one (js_ret (je_tup (ja_cons (je_str (by decide +kernel)) (ja_cons (je_var 4) (ja_cons (je_fn c_law_pick hr (by decide) (by rfl) (ja_cons (je_var 0) (ja_cons (je_var 8) ja_nil))) (ja_cons (je_var 5) ja_nil))))))) jb_nil) (jb_cons (js_if (jt_w (jw_and (jt_cmp (op_eq' hr.units) os_eq (je_var 9) je_int (by rfl)) (jw_and1 (jt_tru (je_var 8))))) (jb_one (js_ret (je_tup (ja_cons (je_str (by decide +kernel)) (ja_cons (je_fn c_law_pick hr (by decide) (by rfl) (ja_cons (je_var 0) (ja_cons (je_fn c_law_operators hr (by decide) (by rfl) (ja_cons (je_str (by decide +kernel)) ja_nil)) ja_nil))) (ja_cons (je_fn c_law_pick hr (by decide) (by rfl) (ja_cons (je_var 0) (ja_cons (je_var 8) ja_nil))) (ja_cons (je_var 5) (ja_cons (je_var 6) ja_nil)))))))) jb_nil) (jb_cons (js_if (jt_w (jw_and (jt_cmp op_lt os_lt (je_var 9) je_int (by rfl)) (jw_and1 (jt_tru (je_var 8))))) (jb_one (js_ret (je_tup (ja_cons (je_str (by decide +kernel)) (ja_cons (je_fn c_law_pick hr (by decide) (by rfl) (ja_cons (je_var 0) (ja_cons (je_var 8) ja_nil))) (ja_cons (je_var 5) (ja_cons (je_var 6) ja_nil))))))) jb_nil) (jb_cons (js_if (jt_cmp (op_eq' hr.units) os_eq (je_var 9) je_int (by rfl)) (jb_one (js_ret (je_fn c_law_pick hr (by decide) (by rfl) (ja_cons (je_var 0) (ja_cons (je_lst (ja_cons (je_tup (ja_cons (je_str (by decide +kernel)) (ja_cons (je_fn c_law_draw hr (by decide) (by rfl) (ja_cons (je_var 0) (ja_cons je_int ja_nil))) ja_nil))) (ja_cons (je_tup (ja_cons (je_str (by decide +kernel)) (ja_cons (je_fn c_law_pick hr (by decide) (by rfl) (ja_cons (je_var 0) (ja_cons (je_fn c_law_operators hr (by decide) (by rfl) (ja_cons (je_str (by decide +kernel)) ja_nil)) ja_nil))) (ja_cons (je_var 4) (ja_cons (je_var 5) (ja_cons (je_fn c_law_draw hr (by decide) (by rfl) (ja_cons (je_var 0) (ja_cons je_int ja_nil))) ja_nil)))))) ja_nil))) ja_nil))))) jb_nil) (jb_one (js_ret (je_tup (ja_cons (je_str (by decide +kernel)) (ja_cons (je_fn c_law_pick hr (by decide) (by rfl) (ja_cons (je_var 0) (ja_cons (je_fn c_law_operators hr (by decide) (by rfl) (ja_cons (je_str (by decide +kernel)) ja_nil)) ja_nil))) (ja_cons (je_var 4) (ja_cons (je_var 5) (ja_cons (je_var 6) ja_nil)))))))))))))))))))))))
theorem fn_law_code {f : Addr} {fd : FuncData} (F : Fun K "_law_code" "_law_code" s_law_code f fd) (T : Txt K mg) (c_law_pick : Cal P w K mg base cm 2 "_law_pick" 2 G_law_pick) (c_law_draw : Cal P w K mg base cm 1 "_law_draw" 2 G_law_draw) (c_law_instruction : Cal P w K mg base cm 4 "_law_instruction" 4 G_law_instruction) : FnS P w K mg base cm 5 f fd p_law_code M_law_code :=
  fn_body F sc_law_code fun cdv A outer s H E hr => show JB _ cm W0 (defBody s_law_code) _ from (jb_cons (js_set (i := 1) sc_law_code.nd rfl (by first | exact Or.inl rfl | exact Or.inr rfl) (je_fn c_law_pick hr (by decide) (by rfl) (ja_cons (je_var 0) (ja_cons (je_lst (ja_cons (je_tup (ja_cons (je_tup (ja_cons (je_str (by decide +kernel)) (ja_cons (je_str (by decide +kernel)) ja_nil))) (ja_cons (je_tup (ja_cons (je_str (by decide +kernel)) (ja_cons (je_str (by decide +kernel)) ja_nil))) ja_nil))) (ja_cons (je_tup (ja_cons (je_tup (ja_cons (je_str (by decide +kernel)) (ja_cons (je_str (by decide +kernel)) ja_nil))) (ja_cons (je_tup (ja_cons (je_str (by decide +kernel)) (ja_cons (je_str (by decide +kernel)) ja_nil))) (ja_cons (je_tup (ja_cons (je_str (by decide +kernel)) (ja_cons (je_str (by decide +kernel)) ja_nil))) ja_nil)))) (ja_cons (je_tup (ja_cons (je_tup (ja_cons (je_str (by decide +kernel)) (ja_cons (je_str (by decide +kernel)) ja_nil))) ja_nil)) (ja_cons (je_tup ja_nil) ja_nil))))) ja_nil)))) (jb_cons (js_set (i := 2) sc_law_code.nd rfl (by first | exact Or.inl rfl | exact Or.inr rfl) (je_fn c_law_pick hr (by decide) (by rfl) (ja_cons (je_var 0) (ja_cons (je_lst (ja_cons (je_tup ja_nil) (ja_cons (je_tup ja_nil) (ja_cons (je_tup (ja_cons (je_tup (ja_cons (je_str (by decide +kernel)) (ja_cons je_int ja_nil))) ja_nil)) (ja_cons (je_tup (ja_cons (je_tup (ja_cons (je_str (by decide +kernel)) (ja_cons je_int ja_nil))) (ja_cons (je_tup (ja_cons (je_str (by decide +kernel)) (ja_cons je_int ja_nil))) ja_nil))) ja_nil))))) ja_nil)))) (jb_cons (js_set (i := 3) sc_law_code.nd rfl (by first | exact Or.inl rfl | exact Or.inr rfl) (je_fn c_law_draw hr (by decide) (by rfl) (ja_cons (je_var 0) (ja_cons je_int ja_nil)))) (jb_cons (js_set (i := 4) sc_law_code.nd rfl (by first | exact Or.inl rfl | exact Or.inr rfl) (je_bin op_addX os_addX je_int (je_fn c_law_draw hr (by decide) (by rfl) (ja_cons (je_var 0) (ja_cons je_int ja_nil))))) (jb_cons (js_set (i := 5) sc_law_code.nd rfl (by first | exact Or.inl rfl | exact Or.inr rfl) (je_lstN ja_nil)) (jb_cons (js_for (own := [6]) PassesOwn.never rfl (ji_range1 (by rfl) T.b_range (je_var 4)) (jg_name (i := 6) (by decide) sc_law_code.nd rfl (by first | exact Or.inl rfl | exact Or.inr rfl)) (jb_cons (js_set (i := 7) sc_law_code.nd rfl (by first | exact Or.inl rfl | exact Or.inr rfl) (je_fn c_law_draw hr (by decide) (by rfl) (ja_cons (je_var 0) (ja_cons je_int ja_nil)))) (jb_one (js_if (jt_cmp (op_eq' hr.units) os_eq (je_var 6) (je_bin op_sub os_sub (je_var 4) je_int) (by rfl)) (jb_one (js_expr (je_meth PySem.F.slot_list_append PySem.F.type_list_append mt_append' ms_append (je_var 5) (ja_cons (je_if (jt_cmp op_gt os_gt (je_fn c_law_draw hr (by decide) (by rfl) (ja_cons (je_var 0) (ja_cons je_int ja_nil))) je_int (by rfl)) (je_tup (ja_cons (je_str (by decide +kernel)) ja_nil)) (je_tup (ja_cons (je_str (by decide +kernel)) (ja_cons (je_fn c_law_draw hr (by decide) (by rfl) (ja_cons (je_var 0) (ja_cons (je_var 4) ja_nil))) ja_nil)))) ja_nil)))) (jb_one (js_if (jt_cmp (op_eq' hr.units) os_eq (je_var 7) je_int (by rfl)) (jb_one (js_expr (je_meth PySem.F.slot_list_append PySem.F.type_list_append mt_append' ms_append (je_var 5) (ja_cons (je_tup (ja_cons (je_str (by decide +kernel)) (ja_cons (je_fn c_law_draw hr (by decide) (by rfl) (ja_cons (je_var 0) (ja_cons je_int ja_nil))) (ja_cons (je_fn c_law_draw hr (by decide) (by rfl) (ja_cons (je_var 0) (ja_cons (je_var 4) ja_nil))) (ja_cons (je_fn c_law_draw hr (by decide) (by rfl) (ja_cons (je_var 0) (ja_cons (je_bin op_addX os_addX (je_var 4) je_int) ja_nil))) ja_nil))))) ja_nil)))) (jb_one (js_if (jt_w (jw_and (jt_cmp (op_eq' hr.units) os_eq (je_var 7) je_int (by rfl)) (jw_and1 (jt_cmp op_gt os_gt (je_var 3) je_int (by rfl))))) (jb_one (js_expr (je_meth PySem.F.slot_list_append PySem.F.type_list_append mt_append' ms_append (je_var 5) (ja_cons (je_fn c_law_pick hr (by decide) (by rfl) (ja_cons (je_var 0) (ja_cons (je_lst (ja_cons (je_tup (ja_cons (je_str (by decide +kernel)) (ja_cons (je_fn c_law_draw hr (by decide) (by rfl) (ja_cons (je_var 0) (ja_cons je_int ja_nil))) (ja_cons (je_fn c_law_draw hr (by decide) (by rfl) (ja_cons (je_var 0) (ja_cons (je_var 3) ja_nil))) ja_nil)))) (ja_cons (je_tup (ja_cons (je_str (by decide +kernel)) (ja_cons (je_fn c_law_draw hr (by decide) (by rfl) (ja_cons (je_var 0) (ja_cons (je_var 3) ja_nil))) (ja_cons (je_fn c_law_draw hr (by decide) (by rfl) (ja_cons (je_var 0) (ja_cons je_int ja_nil))) ja_nil)))) ja_nil))) ja_nil))) ja_nil)))) (jb_one (js_if (jt_w (jw_and (jt_cmp (op_eq' hr.units) os_eq (je_var 7) je_int (by rfl)) (jw_and1 (jt_cmp (op_eq' hr.units) os_eq (je_fn c_law_draw hr (by decide) (by rfl) (ja_cons (je_var 0) (ja_cons je_int ja_nil))) je_int (by rfl))))) (jb_one (js_expr (je_meth PySem.F.slot_list_append PySem.F.type_list_append mt_append' ms_append (je_var 5) (ja_cons (je_fn c_law_pick hr (by decide) (by rfl) (ja_cons (je_var 0) (ja_cons (je_lst (ja_cons (je_tup (ja_cons (je_str (by decide +kernel)) ja_nil)) (ja_cons (je_tup (ja_cons (je_str (by decide +kernel)) (ja_cons (je_callB (call_min2 rfl) cs_min (by rfl) T.b_min (by decide +kernel) (ja_cons (je_bin op_addX os_addX (je_var 6) je_int) (ja_cons (je_bin op_sub os_sub (je_var 4) je_int) ja_nil))) ja_nil))) ja_nil))) ja_nil))) ja_nil)))) (jb_one (js_expr (je_meth PySem.F.slot_list_append PySem.F.type_list_append mt_append' ms_append (je_var 5) (ja_cons (je_fn c_law_instruction hr (by decide) (by rfl) (ja_cons (je_var 0) (ja_cons (je_var 1) (ja_cons (je_var 2) (ja_cons (je_fn c_law_pick hr (by decide) (by rfl) (ja_cons (je_var 0) (ja_cons (je_lst (ja_cons je_int (ja_cons je_int (ja_cons je_int ja_nil)))) ja_nil))) ja_nil))))) ja_nil)))))))))))))) (jb_one (js_ret (je_tup (ja_cons (je_var 1) (ja_cons (je_var 2) (ja_cons (je_var 3) (ja_cons (je_callTy call_tuple_of cs_tup (by rfl) T.b_tuple (by decide +kernel) (ja_cons (je_var 5) ja_nil)) ja_nil)))))))))))))
theorem fn_law_launch {f : Addr} {fd : FuncData} (F : Fun K "_law_launch" "_law_launch" s_law_launch f fd) (T : Txt K mg) (c_law_draw : Cal P w K mg base cm 1 "_law_draw" 2 G_law_draw) (c_law_word : Cal P w K mg base cm 3 "_law_word" 1 G_law_word) (c_law_pick : Cal P w K mg base cm 2 "_law_pick" 2 G_law_pick) : FnS P w K mg base cm 4 f fd p_law_launch M_law_launch :=
  fn_body F sc_law_launch fun cdv A outer s H E hr => show JB _ cm W0 (defBody s_law_launch) _ from (jb_cons (js_set (i := 2) sc_law_launch.nd rfl (by first | exact Or.inl rfl | exact Or.inr rfl) (je_callTy call_tuple_of cs_tup (by rfl) T.b_tuple (by decide +kernel) (ja_cons (je_lc (own := [("k", 4)]) rfl sc_law_launch.nd (ji_range1 (by rfl) T.b_range (je_bin op_addX os_addX je_int (je_fn c_law_draw hr (by decide) (by rfl) (ja_cons (je_var 0) (ja_cons je_int ja_nil))))) (blkOk_by (own := [("k", 4)]) (N := n_law_launch) (sc := defScope s_law_launch) (by decide +kernel)) (fun _ _ _ _ _ => (jg_name (i := 4) (by decide) sc_law_launch.nd rfl (by first | exact Or.inl rfl | exact Or.inr rfl))) (fun _ _ _ _ _ => jts_nil) (fun _ _ _ _ _ => (je_callTy call_tuple_of cs_tup (by rfl) T.b_tuple (by decide +kernel) (ja_cons (je_lc (own := [("j", 7)]) rfl sc_law_launch.nd (ji_range1 (by rfl) T.b_range (je_fn c_law_draw hr (by decide) (by rfl) (ja_cons (je_var 0) (ja_cons je_int ja_nil)))) (by refine blkOk_by (own := [("j", 7)]) ?_; rfl) (fun _ _ _ _ _ => (jg_name (i := 7) (by decide) sc_law_launch.nd rfl (by first | exact Or.inl rfl | exact Or.inr rfl))) (fun _ _ _ _ _ => jts_nil) (fun _ _ _ _ _ => (je_fn c_law_word hr (by decide) (by rfl) (ja_cons (je_var 0) ja_nil)))) ja_nil)))) ja_nil))) (jb_cons (js_set (i := 3) sc_law_launch.nd rfl (by first | exact Or.inl rfl | exact Or.inr rfl) (je_callTy call_tuple_of cs_tup (by rfl) T.b_tuple (by decide +kernel) (ja_cons (je_lc (own := [("name", 5), ("sort", 6)]) rfl sc_law_launch.nd (ji_seq (je_ixD hr.units (je_var 1) je_int)) (blkOk_by (own := [("name", 5), ("sort", 6)]) (N := n_law_launch) (sc := defScope s_law_launch) (by decide +kernel)) (fun _ _ _ _ _ => (jg_tup rfl sc_law_launch.nd (.cons rfl (by first | exact Or.inl rfl | exact Or.inr rfl) (by first | exact .inl rfl | exact .inr rfl) (by decide) (by rfl) (.cons rfl (by first | exact Or.inl rfl | exact Or.inr rfl) (by first | exact .inl rfl | exact .inr rfl) (by decide) (by rfl) .nil)))) (fun _ _ _ _ _ => jts_nil) (fun _ _ _ _ _ => (je_if (jt_cmp (op_eq' hr.units) os_eq (je_var 6) (je_str (by decide +kernel)) (by rfl)) (je_fn c_law_pick hr (by decide) (by rfl) (ja_cons (je_var 0) (ja_cons (je_lst (ja_cons je_int (ja_cons je_int (ja_cons je_int (ja_cons je_int (ja_cons (je_fn c_law_word hr (by decide) (by rfl) (ja_cons (je_var 0) ja_nil)) ja_nil)))))) ja_nil))) (je_fn c_law_draw hr (by decide) (by rfl) (ja_cons (je_var 0) (ja_cons (je_callB call_len cs_len (by rfl) T.b_len (by decide +kernel) (ja_cons (je_var 2) ja_nil)) ja_nil)))))) ja_nil))) (jb_one (js_ret (je_tup (ja_cons (je_bin op_addX os_addX je_int (je_fn c_law_draw hr (by decide) (by rfl) (ja_cons (je_var 0) (ja_cons je_int ja_nil)))) (ja_cons (je_bin op_addX os_addX je_int (je_fn c_law_draw hr (by decide) (by rfl) (ja_cons (je_var 0) (ja_cons je_int ja_nil)))) (ja_cons (je_var 3) (ja_cons (je_var 2) ja_nil)))))))))
theorem fn_first_lane {f : Addr} {fd : FuncData} (F : Fun K "first_lane" "first_lane" s_first_lane f fd) (T : Txt K mg)  : FnS P w K mg base cm 1 f fd p_first_lane M_first_lane :=
  fn_body F sc_first_lane fun cdv A outer s H E hr => show JB _ cm W0 (defBody s_first_lane) _ from (jb_one (js_ret (je_tup (ja_cons je_int (ja_cons (je_bin op_mulX' os_mulX (je_tup (ja_cons je_int ja_nil)) (T.c_REGISTERS.je (by rfl))) (ja_cons (je_bin op_mulX' os_mulX (je_tup (ja_cons je_int ja_nil)) (je_ixD hr.units (je_var 0) je_int)) ja_nil))))))
theorem fn_law_same {f : Addr} {fd : FuncData} {G_law_same : SF} {j : Nat} (F : Fun K "_law_same" "_law_same" s_law_same f fd) (T : Txt K mg)  (c_law_same : Cal P w K mg base cm j "_law_same" 2 G_law_same) (hj : 0 ≤ j) : FnS P w K mg base cm (j + 1) f fd p_law_same (M_law_same G_law_same) :=
  fn_body F sc_law_same fun cdv A outer s H E hr => show JB _ cm W0 (defBody s_law_same) _ from (jb_cons (js_if (jt_w (jw_or (jt_tru (je_isi (T := "tuple") (by decide +kernel) (by rfl) T.b_isinstance (by decide +kernel) (by rfl) T.b_tuple (by decide +kernel) (je_var 1))) (jw_or1 (jt_tru (je_isi (T := "list") (by decide +kernel) (by rfl) T.b_isinstance (by decide +kernel) (by rfl) T.b_list (by decide +kernel) (je_var 1)))))) (jb_cons (js_if (jt_w (jw_or (jt_cmp (op_ne' hr.units) os_ne (je_isi (T := "tuple") (by decide +kernel) (by rfl) T.b_isinstance (by decide +kernel) (by rfl) T.b_tuple (by decide +kernel) (je_var 0)) (je_isi (T := "tuple") (by decide +kernel) (by rfl) T.b_isinstance (by decide +kernel) (by rfl) T.b_tuple (by decide +kernel) (je_var 1)) (by rfl)) (jw_or1 (jt_cmp (op_ne' hr.units) os_ne (je_isi (T := "list") (by decide +kernel) (by rfl) T.b_isinstance (by decide +kernel) (by rfl) T.b_list (by decide +kernel) (je_var 0)) (je_isi (T := "list") (by decide +kernel) (by rfl) T.b_isinstance (by decide +kernel) (by rfl) T.b_list (by decide +kernel) (je_var 1)) (by rfl))))) (jb_one (js_ret je_bl)) jb_nil) (jb_one (js_ret (je_and (je_cmp (op_eq' hr.units) os_eq (je_callB call_len cs_len (by rfl) T.b_len (by decide +kernel) (ja_cons (je_var 0) ja_nil)) (je_callB call_len cs_len (by rfl) T.b_len (by decide +kernel) (ja_cons (je_var 1) ja_nil)) (by rfl)) (je_one (je_callB (cr_all rfl) cs_all (by rfl) T.b_all (by decide +kernel) (ja_cons (je_lc (own := [("k", 2)]) rfl sc_law_same.nd (ji_range1 (by rfl) T.b_range (je_callB call_len cs_len (by rfl) T.b_len (by decide +kernel) (ja_cons (je_var 1) ja_nil))) (blkOk_by (own := [("k", 2)]) (N := n_law_same) (sc := defScope s_law_same) (by decide +kernel)) (fun _ _ _ _ _ => (jg_name (i := 2) (by decide) sc_law_same.nd rfl (by first | exact Or.inl rfl | exact Or.inr rfl))) (fun _ _ _ _ _ => jts_nil) (fun _ _ _ _ _ => (je_fn c_law_same hr (Nat.le_refl _) (by rfl) (ja_cons (je_ixD hr.units (je_var 0) (je_var 2)) (ja_cons (je_ixD hr.units (je_var 1) (je_var 2)) ja_nil))))) ja_nil))))))) jb_nil) (jb_cons (js_if (jt_cmp op_isN os_isN (je_var 1) je_non (by rfl)) (jb_one (js_ret (je_cmp op_isN os_isN (je_var 0) je_non (by rfl)))) jb_nil) (jb_cons (js_if (jt_tru (je_isi (T := "str") (by decide +kernel) (by rfl) T.b_isinstance (by decide +kernel) (by rfl) T.b_str (by decide +kernel) (je_var 1))) (jb_one (js_ret (je_and (je_isi (T := "str") (by decide +kernel) (by rfl) T.b_isinstance (by decide +kernel) (by rfl) T.b_str (by decide +kernel) (je_var 0)) (je_one (je_cmp (op_eq' hr.units) os_eq (je_var 0) (je_var 1) (by rfl)))))) jb_nil) (jb_one (js_ret (je_and (je_isi (T := "int") (by decide +kernel) (by rfl) T.b_isinstance (by decide +kernel) (by rfl) T.b_int (by decide +kernel) (je_var 0)) (je_and (je_cmp (op_eq' hr.units) os_eq (je_isi (T := "bool") (by decide +kernel) (by rfl) T.b_isinstance (by decide +kernel) (by rfl) T.b_bool (by decide +kernel) (je_var 0)) (je_isi (T := "bool") (by decide +kernel) (by rfl) T.b_isinstance (by decide +kernel) (by rfl) T.b_bool (by decide +kernel) (je_var 1)) (by rfl)) (je_one (je_cmp (op_eq' hr.units) os_eq (je_var 0) (je_var 1) (by rfl))))))))))
theorem fn_law_request {f : Addr} {fd : FuncData} (F : Fun K "_law_request" "_law_request" s_law_request f fd) (T : Txt K mg)  : FnS P w K mg base cm 1 f fd p_law_request M_law_request :=
  fn_body F sc_law_request fun cdv A outer s H E hr => show JB _ cm W0 (defBody s_law_request) _ from (jb_cons (js_set (i := 2) sc_law_request.nd rfl (by first | exact Or.inl rfl | exact Or.inr rfl) (je_ixD hr.units (je_ixD hr.units (je_var 0) je_int) (je_ixD hr.units (je_var 1) je_int))) (jb_cons (js_set (i := 3) sc_law_request.nd rfl (by first | exact Or.inl rfl | exact Or.inr rfl) (je_ixD hr.units (je_var 1) je_int)) (jb_cons (js_if (jt_cmp (op_eq' hr.units) os_eq (je_ixD hr.units (je_var 2) je_int) (je_str (by decide +kernel)) (by rfl)) (jb_one (js_ret (je_tup (ja_cons (je_str (by decide +kernel)) (ja_cons (je_ixD hr.units (je_var 2) je_int) (ja_cons (je_ixD hr.units (je_var 3) (je_ixD hr.units (je_var 2) je_int)) ja_nil)))))) jb_nil) (jb_cons (js_if (jt_cmp (op_eq' hr.units) os_eq (je_ixD hr.units (je_var 2) je_int) (je_str (by decide +kernel)) (by rfl)) (jb_one (js_ret (je_tup (ja_cons (je_str (by decide +kernel)) (ja_cons (je_ixD hr.units (je_var 2) je_int) (ja_cons (je_ixD hr.units (je_var 3) (je_ixD hr.units (je_var 2) je_int)) (ja_cons (je_ixD hr.units (je_var 3) (je_ixD hr.units (je_var 2) je_int)) ja_nil))))))) jb_nil) (jb_cons (js_if (jt_cmp (op_eq' hr.units) os_eq (je_ixD hr.units (je_var 2) je_int) (je_str (by decide +kernel)) (by rfl)) (jb_one (js_ret (je_tup (ja_cons (je_str (by decide +kernel)) (ja_cons (je_ixD hr.units (je_var 2) je_int) (ja_cons (je_ixD hr.units (je_var 2) je_int) (ja_cons (je_ixD hr.units (je_var 3) (je_ixD hr.units (je_var 2) je_int)) (ja_cons (je_ixD hr.units (je_var 3) (je_ixD hr.units (je_var 2) je_int)) ja_nil)))))))) jb_nil) (jb_cons (js_if (jt_cmp (op_eq' hr.units) os_eq (je_ixD hr.units (je_var 2) je_int) (je_str (by decide +kernel)) (by rfl)) (jb_one (js_ret (je_tup (ja_cons (je_str (by decide +kernel)) (ja_cons (je_ixD hr.units (je_var 2) je_int) ja_nil))))) jb_nil) (jb_cons (js_if (jt_cmp (op_eq' hr.units) os_eq (je_ixD hr.units (je_var 2) je_int) (je_str (by decide +kernel)) (by rfl)) (jb_one (js_ret (je_tup (ja_cons (je_str (by decide +kernel)) (ja_cons (je_ixD hr.units (je_var 2) je_int) (ja_cons (je_ixD hr.units (je_var 3) (je_ixD hr.units (je_var 2) je_int)) (ja_cons (je_ixD hr.units (je_var 2) je_int) ja_nil))))))) jb_nil) (jb_one (js_ret (je_if (jt_cmp (op_eq' hr.units) os_eq (je_ixD hr.units (je_var 2) je_int) (je_str (by decide +kernel)) (by rfl)) (je_tup (ja_cons (je_str (by decide +kernel)) ja_nil)) (je_tup (ja_cons (je_str (by decide +kernel)) ja_nil))))))))))))
theorem fn_request {f : Addr} {fd : FuncData} (F : Fun K "request" "request" s_request f fd) (T : Txt K mg)  : FnS P w K mg base cm 1 f fd p_request M_request :=
  fn_body F sc_request fun cdv A outer s H E hr => show JB _ cm W0 (defBody s_request) _ from (jb_cons (js_asg (own := [2, 3, 4]) (je_var 1) (jg_tup rfl sc_request.nd (.cons rfl (by first | exact Or.inl rfl | exact Or.inr rfl) (by first | exact .inl rfl | exact .inr rfl) (by decide) (by rfl) (.cons rfl (by first | exact Or.inl rfl | exact Or.inr rfl) (by first | exact .inl rfl | exact .inr rfl) (by decide) (by rfl) (.cons rfl (by first | exact Or.inl rfl | exact Or.inr rfl) (by first | exact .inl rfl | exact .inr rfl) (by decide) (by rfl) .nil))))) (jb_cons (js_set (i := 5) sc_request.nd rfl (by first | exact Or.inl rfl | exact Or.inr rfl) (je_ixD hr.units (je_ixD hr.units (je_var 0) je_int) (je_var 2))) (jb_cons (js_set (i := 6) sc_request.nd rfl (by first | exact Or.inl rfl | exact Or.inr rfl) (je_ixD hr.units (je_var 5) je_int)) (jb_cons (js_if (jt_cmp (op_eq' hr.units) os_eq (je_var 6) (je_str (by decide +kernel)) (by rfl)) (jb_one (js_ret (je_tup (ja_cons (je_str (by decide +kernel)) (ja_cons (je_ixD hr.units (je_var 5) je_int) (ja_cons (je_ixD hr.units (je_var 3) (je_ixD hr.units (je_var 5) je_int)) ja_nil)))))) jb_nil) (jb_cons (js_if (jt_cmp (op_eq' hr.units) os_eq (je_var 6) (je_str (by decide +kernel)) (by rfl)) (jb_one (js_ret (je_tup (ja_cons (je_str (by decide +kernel)) (ja_cons (je_ixD hr.units (je_var 5) je_int) (ja_cons (je_ixD hr.units (je_var 3) (je_ixD hr.units (je_var 5) je_int)) (ja_cons (je_ixD hr.units (je_var 3) (je_ixD hr.units (je_var 5) je_int)) ja_nil))))))) jb_nil) (jb_cons (js_if (jt_cmp (op_eq' hr.units) os_eq (je_var 6) (je_str (by decide +kernel)) (by rfl)) (jb_one (js_ret (je_tup (ja_cons (je_str (by decide +kernel)) (ja_cons (je_ixD hr.units (je_var 5) je_int) (ja_cons (je_ixD hr.units (je_var 5) je_int) (ja_cons (je_ixD hr.units (je_var 3) (je_ixD hr.units (je_var 5) je_int)) (ja_cons (je_ixD hr.units (je_var 3) (je_ixD hr.units (je_var 5) je_int)) ja_nil)))))))) jb_nil) (jb_cons (js_if (jt_cmp op_in_seq (os_in false) (je_var 6) (je_tup (ja_cons (je_str (by decide +kernel)) (ja_cons (je_str (by decide +kernel)) ja_nil))) (by rfl)) (jb_one (js_ret (je_var 5))) jb_nil) (jb_cons (js_if (jt_cmp (op_eq' hr.units) os_eq (je_var 6) (je_str (by decide +kernel)) (by rfl)) (jb_one (js_ret (je_tup (ja_cons (je_str (by decide +kernel)) (ja_cons (je_ixD hr.units (je_var 5) je_int) (ja_cons (je_ixD hr.units (je_var 3) (je_ixD hr.units (je_var 5) je_int)) (ja_cons (je_ixD hr.units (je_var 5) je_int) ja_nil))))))) jb_nil) (jb_one (js_ret (je_tup (ja_cons (je_str (by decide +kernel)) ja_nil))))))))))))
theorem fn_law_wrapped {f : Addr} {fd : FuncData} (F : Fun K "_law_wrapped" "_law_wrapped" s_law_wrapped f fd) (T : Txt K mg)  : FnS P w K mg base cm 1 f fd p_law_wrapped M_law_wrapped :=
  fn_body F sc_law_wrapped fun cdv A outer s H E hr => show JB _ cm W0 (defBody s_law_wrapped) _ from (jb_one (js_ret (je_bin op_sub os_sub (je_bin op_mod os_mod (je_callTy call_int1 cs_int (by rfl) T.b_int (by decide +kernel) (ja_cons (je_bin op_addX os_addX (je_var 0) je_int) ja_nil)) je_int) je_int)))
theorem fn_law_unary {f : Addr} {fd : FuncData} (F : Fun K "_law_unary" "_law_unary" s_law_unary f fd) (T : Txt K mg) (c_law_wrapped : Cal P w K mg base cm 1 "_law_wrapped" 1 G_law_wrapped) : FnS P w K mg base cm 2 f fd p_law_unary M_law_unary :=
  fn_body F sc_law_unary fun cdv A outer s H E hr => show JB _ cm W0 (defBody s_law_unary) _ from (jb_cons (js_if (jt_cmp (op_eq' hr.units) os_eq (je_var 0) (je_str (by decide +kernel)) (by rfl)) (jb_one (js_ret (je_callTy call_int1 cs_int (by rfl) T.b_int (by decide +kernel) (ja_cons (je_cmp (op_eq' hr.units) os_eq (je_var 1) je_int (by rfl)) ja_nil)))) jb_nil) (jb_one (js_ret (je_fn c_law_wrapped hr (by decide) (by rfl) (ja_cons (je_if (jt_cmp (op_eq' hr.units) os_eq (je_var 0) (je_str (by decide +kernel)) (by rfl)) (je_un un_neg us_neg (je_var 1)) (je_bin op_sub os_sub (je_un un_neg us_neg je_int) (je_var 1))) ja_nil)))))
theorem fn_law_bits {f : Addr} {fd : FuncData} (F : Fun K "_law_bits" "_law_bits" s_law_bits f fd) (T : Txt K mg) (c_law_wrapped : Cal P w K mg base cm 1 "_law_wrapped" 1 G_law_wrapped) : FnS P w K mg base cm 2 f fd p_law_bits M_law_bits :=
  fn_body F sc_law_bits fun cdv A outer s H E hr => show JB _ cm W0 (defBody s_law_bits) _ from (jb_cons (js_set (i := 3) sc_law_bits.nd rfl (by first | exact Or.inl rfl | exact Or.inr rfl) je_int) (jb_cons (js_set (i := 4) sc_law_bits.nd rfl (by first | exact Or.inl rfl | exact Or.inr rfl) je_int) (jb_cons (js_for (own := [5]) PassesOwn.never rfl (ji_range1 (by rfl) T.b_range je_int) (jg_name (i := 5) (by decide) sc_law_bits.nd rfl (by first | exact Or.inl rfl | exact Or.inr rfl)) (jb_cons (js_set (i := 6) sc_law_bits.nd rfl (by first | exact Or.inl rfl | exact Or.inr rfl) (je_bin op_mod os_mod (je_bin op_fdivW os_div (je_var 1) (je_var 4)) je_int)) (jb_cons (js_set (i := 7) sc_law_bits.nd rfl (by first | exact Or.inl rfl | exact Or.inr rfl) (je_bin op_mod os_mod (je_bin op_fdivW os_div (je_var 2) (je_var 4)) je_int)) (jb_cons (js_set (i := 8) sc_law_bits.nd rfl (by first | exact Or.inl rfl | exact Or.inr rfl) (je_if (jt_cmp (op_eq' hr.units) os_eq (je_var 0) (je_str (by decide +kernel)) (by rfl)) (je_bin op_mulX' os_mulX (je_var 6) (je_var 7)) (je_if (jt_cmp (op_eq' hr.units) os_eq (je_var 0) (je_str (by decide +kernel)) (by rfl)) (je_callB (call_max2 rfl) cs_max (by rfl) T.b_max (by decide +kernel) (ja_cons (je_var 6) (ja_cons (je_var 7) ja_nil))) (je_bin op_mod os_mod (je_bin op_addX os_addX (je_var 6) (je_var 7)) je_int)))) (jb_cons (js_set (i := 3) sc_law_bits.nd rfl (by first | exact Or.inl rfl | exact Or.inr rfl) (je_bin op_addX os_addX (je_var 3) (je_bin op_mulX' os_mulX (je_var 8) (je_var 4)))) (jb_one (js_set (i := 4) sc_law_bits.nd rfl (by first | exact Or.inl rfl | exact Or.inr rfl) (je_bin op_mulX' os_mulX (je_var 4) je_int)))))))) (jb_one (js_ret (je_fn c_law_wrapped hr (by decide) (by rfl) (ja_cons (je_var 3) ja_nil)))))))
theorem fn_law_binary {f : Addr} {fd : FuncData} (F : Fun K "_law_binary" "_law_binary" s_law_binary f fd) (T : Txt K mg) (c_law_wrapped : Cal P w K mg base cm 1 "_law_wrapped" 1 G_law_wrapped) (c_law_bits : Cal P w K mg base cm 2 "_law_bits" 3 G_law_bits) : FnS P w K mg base cm 3 f fd p_law_binary M_law_binary :=
  fn_body F sc_law_binary fun cdv A outer s H E hr => show JB _ cm W0 (defBody s_law_binary) _ from (jb_cons (js_if (jt_cmp op_in_seq (os_in false) (je_var 0) (je_lst (ja_cons (je_str (by decide +kernel)) (ja_cons (je_str (by decide +kernel)) ja_nil))) (by rfl)) (jb_cons (js_set (i := 3) sc_law_binary.nd rfl (by first | exact Or.inl rfl | exact Or.inr rfl) (je_if (jt_cmp (op_eq' hr.units) os_eq (je_var 2) je_int (by rfl)) je_int (je_bin op_mulX' os_mulX (je_bin op_fdivW os_div (je_callB call_abs cs_abs (by rfl) T.b_abs (by decide +kernel) (ja_cons (je_var 1) ja_nil)) (je_callB call_abs cs_abs (by rfl) T.b_abs (by decide +kernel) (ja_cons (je_var 2) ja_nil))) (je_if (jt_cmp (op_eq' hr.units) os_eq (je_cmp op_lt os_lt (je_var 1) je_int (by rfl)) (je_cmp op_lt os_lt (je_var 2) je_int (by rfl)) (by rfl)) je_int (je_un un_neg us_neg je_int))))) (jb_one (js_ret (je_fn c_law_wrapped hr (by decide) (by rfl) (ja_cons (je_if (jt_cmp (op_eq' hr.units) os_eq (je_var 0) (je_str (by decide +kernel)) (by rfl)) (je_var 3) (je_if (jt_cmp (op_eq' hr.units) os_eq (je_var 2) je_int (by rfl)) je_int (je_bin op_sub os_sub (je_var 1) (je_bin op_mulX' os_mulX (je_var 2) (je_var 3))))) ja_nil))))) jb_nil) (jb_cons (js_if (jt_cmp op_in_seq (os_in false) (je_var 0) (je_lst (ja_cons (je_str (by decide +kernel)) (ja_cons (je_str (by decide +kernel)) ja_nil))) (by rfl)) (jb_cons (js_set (i := 4) sc_law_binary.nd rfl (by first | exact Or.inl rfl | exact Or.inr rfl) je_int) (jb_cons (js_for (own := [5]) PassesOwn.never rfl (ji_range1 (by rfl) T.b_range (je_bin op_mod os_mod (je_var 2) je_int)) (jg_name (i := 5) (by decide) sc_law_binary.nd rfl (by first | exact Or.inl rfl | exact Or.inr rfl)) (jb_one (js_set (i := 4) sc_law_binary.nd rfl (by first | exact Or.inl rfl | exact Or.inr rfl) (je_bin op_mulX' os_mulX (je_var 4) je_int)))) (jb_one (js_ret (je_fn c_law_wrapped hr (by decide) (by rfl) (ja_cons (je_if (jt_cmp (op_eq' hr.units) os_eq (je_var 0) (je_str (by decide +kernel)) (by rfl)) (je_bin op_mulX' os_mulX (je_var 1) (je_var 4)) (je_bin op_fdivW os_div (je_var 1) (je_var 4))) ja_nil)))))) jb_nil) (jb_cons (js_if (jt_cmp op_in_seq (os_in false) (je_var 0) (je_lst (ja_cons (je_str (by decide +kernel)) (ja_cons (je_str (by decide +kernel)) (ja_cons (je_str (by decide +kernel)) (ja_cons (je_str (by decide +kernel)) ja_nil))))) (by rfl)) (jb_one (js_ret (je_callTy call_int1 cs_int (by rfl) T.b_int (by decide +kernel) (ja_cons (je_ixD hr.units (je_lst (ja_cons (je_cmp op_lt os_lt (je_var 1) (je_var 2) (by rfl)) (ja_cons (je_cmp op_le os_le (je_var 1) (je_var 2) (by rfl)) (ja_cons (je_cmp (op_eq' hr.units) os_eq (je_var 1) (je_var 2) (by rfl)) (ja_cons (je_cmp (op_ne' hr.units) os_ne (je_var 1) (je_var 2) (by rfl)) ja_nil))))) (je_meth PySem.F.slot_list_index PySem.F.type_list_index mt_index ms_index (je_lst (ja_cons (je_str (by decide +kernel)) (ja_cons (je_str (by decide +kernel)) (ja_cons (je_str (by decide +kernel)) (ja_cons (je_str (by decide +kernel)) ja_nil))))) (ja_cons (je_var 0) ja_nil))) ja_nil)))) jb_nil) (jb_cons (js_if (jt_cmp op_in_seq (os_in false) (je_var 0) (je_lst (ja_cons (je_str (by decide +kernel)) (ja_cons (je_str (by decide +kernel)) (ja_cons (je_str (by decide +kernel)) ja_nil)))) (by rfl)) (jb_one (js_ret (je_fn c_law_bits hr (by decide) (by rfl) (ja_cons (je_var 0) (ja_cons (je_var 1) (ja_cons (je_var 2) ja_nil)))))) jb_nil) (jb_cons (js_if (jt_cmp op_in_seq (os_in false) (je_var 0) (je_lst (ja_cons (je_str (by decide +kernel)) (ja_cons (je_str (by decide +kernel)) ja_nil))) (by rfl)) (jb_one (js_ret (je_if (jt_cmp (op_eq' hr.units) os_eq (je_var 0) (je_str (by decide +kernel)) (by rfl)) (je_callB (call_min2 rfl) cs_min (by rfl) T.b_min (by decide +kernel) (ja_cons (je_var 1) (ja_cons (je_var 2) ja_nil))) (je_callB (call_max2 rfl) cs_max (by rfl) T.b_max (by decide +kernel) (ja_cons (je_var 1) (ja_cons (je_var 2) ja_nil)))))) jb_nil) (jb_one (js_ret (je_fn c_law_wrapped hr (by decide) (by rfl) (ja_cons (je_if (jt_cmp (op_eq' hr.units) os_eq (je_var 0) (je_str (by decide +kernel)) (by rfl)) (je_bin op_addX os_addX (je_var 1) (je_var 2)) (je_if (jt_cmp (op_eq' hr.units) os_eq (je_var 0) (je_str (by decide +kernel)) (by rfl)) (je_bin op_sub os_sub (je_var 1) (je_var 2)) (je_bin op_mulX' os_mulX (je_var 1) (je_var 2)))) ja_nil)))))))))
theorem fn_law_done {f : Addr} {fd : FuncData} (F : Fun K "_law_done" "_law_done" s_law_done f fd) (T : Txt K mg) (c_law_unary : Cal P w K mg base cm 2 "_law_unary" 2 G_law_unary) (c_law_binary : Cal P w K mg base cm 3 "_law_binary" 3 G_law_binary) : FnS P w K mg base cm 4 f fd p_law_done M_law_done :=
  fn_body F sc_law_done fun cdv A outer s H E hr => show JB _ cm W0 (defBody s_law_done) _ from (jb_cons (js_set (i := 3) sc_law_done.nd rfl (by first | exact Or.inl rfl | exact Or.inr rfl) (je_ixD hr.units (je_ixD hr.units (je_var 0) (je_str (by decide +kernel))) (je_var 1))) (jb_cons (js_set (i := 4) sc_law_done.nd rfl (by first | exact Or.inl rfl | exact Or.inr rfl) (je_ixD hr.units (je_var 3) (je_str (by decide +kernel)))) (jb_cons (js_set (i := 5) sc_law_done.nd rfl (by first | exact Or.inl rfl | exact Or.inr rfl) (je_ixD hr.units (je_var 0) (je_str (by decide +kernel)))) (jb_one (js_if (jt_cmp op_in_seq (os_in false) (je_ixD hr.units (je_var 2) je_int) (je_lst (ja_cons (je_str (by decide +kernel)) (ja_cons (je_str (by decide +kernel)) (ja_cons (je_str (by decide +kernel)) (ja_cons (je_str (by decide +kernel)) (ja_cons (je_str (by decide +kernel)) ja_nil)))))) (by rfl)) (jb_cons (js_set (i := 6) sc_law_done.nd rfl (by first | exact Or.inl rfl | exact Or.inr rfl) (je_if (jt_cmp op_in_seq (os_in false) (je_ixD hr.units (je_var 2) je_int) (je_lst (ja_cons (je_str (by decide +kernel)) (ja_cons (je_str (by decide +kernel)) ja_nil))) (by rfl)) (je_ixD hr.units (je_var 2) je_int) (je_ixD hr.units (je_var 2) je_int))) (jb_one (js_if (jt_cmp (op_eq' hr.units) os_eq (je_ixD hr.units (je_var 2) je_int) (je_str (by decide +kernel)) (by rfl)) (jb_one (js_asg (own := []) (je_ixD hr.units (je_var 2) je_int) (jg_sub (je_var 4) (je_var 6)))) (jb_one (js_if (jt_cmp (op_eq' hr.units) os_eq (je_ixD hr.units (je_var 2) je_int) (je_str (by decide +kernel)) (by rfl)) (jb_one (js_asg (own := []) (je_ixD hr.units (je_var 4) (je_ixD hr.units (je_var 2) je_int)) (jg_sub (je_var 4) (je_var 6)))) (jb_one (js_if (jt_cmp (op_eq' hr.units) os_eq (je_ixD hr.units (je_var 2) je_int) (je_str (by decide +kernel)) (by rfl)) (jb_one (js_asg (own := []) (je_ixD hr.units (je_ixD hr.units (je_var 3) (je_str (by decide +kernel))) (je_ixD hr.units (je_var 2) je_int)) (jg_sub (je_var 4) (je_var 6)))) (jb_one (js_asg (own := []) (je_if (jt_cmp (op_eq' hr.units) os_eq (je_ixD hr.units (je_var 2) je_int) (je_str (by decide +kernel)) (by rfl)) (je_fn c_law_unary hr (by decide) (by rfl) (ja_cons (je_ixD hr.units (je_var 2) je_int) (ja_cons (je_ixD hr.units (je_var 4) (je_ixD hr.units (je_var 2) je_int)) ja_nil))) (je_fn c_law_binary hr (by decide) (by rfl) (ja_cons (je_ixD hr.units (je_var 2) je_int) (ja_cons (je_ixD hr.units (je_var 4) (je_ixD hr.units (je_var 2) je_int)) (ja_cons (je_ixD hr.units (je_var 4) (je_ixD hr.units (je_var 2) je_int)) ja_nil))))) (jg_sub (je_var 4) (je_var 6))))))))))) (jb_one (js_if (jt_cmp (op_eq' hr.units) os_eq (je_ixD hr.units (je_var 2) je_int) (je_str (by decide +kernel)) (by rfl)) (jb_one (js_asg (own := []) (je_ixD hr.units (je_var 4) (je_ixD hr.units (je_var 2) je_int)) (jg_sub (je_ixD hr.units (je_var 3) (je_str (by decide +kernel))) (je_ixD hr.units (je_var 2) je_int)))) (jb_one (js_if (jt_cmp (op_eq' hr.units) os_eq (je_ixD hr.units (je_var 2) je_int) (je_str (by decide +kernel)) (by rfl)) (jb_one (js_asg (own := []) (je_ixD hr.units (je_ixD hr.units (je_var 5) je_int) (je_ixD hr.units (je_var 2) je_int)) (jg_sub (je_var 4) (je_ixD hr.units (je_var 2) je_int)))) (jb_one (js_if (jt_cmp (op_eq' hr.units) os_eq (je_ixD hr.units (je_var 2) je_int) (je_str (by decide +kernel)) (by rfl)) (jb_one (js_asg (own := []) (je_ixD hr.units (je_lst (ja_cons (je_bin op_mod os_mod (je_var 1) (je_ixD hr.units (je_var 5) je_int)) (ja_cons (je_bin op_fdivW os_div (je_var 1) (je_ixD hr.units (je_var 5) je_int)) (ja_cons (je_ixD hr.units (je_var 5) je_int) (ja_cons (je_ixD hr.units (je_var 5) je_int) ja_nil))))) (je_meth PySem.F.slot_list_index PySem.F.type_list_index mt_index ms_index (je_lst (ja_cons (je_str (by decide +kernel)) (ja_cons (je_str (by decide +kernel)) (ja_cons (je_str (by decide +kernel)) (ja_cons (je_str (by decide +kernel)) ja_nil))))) (ja_cons (je_ixD hr.units (je_var 2) je_int) ja_nil))) (jg_sub (je_var 4) (je_ixD hr.units (je_var 2) je_int)))) (jb_cons js_bad (jb_cons js_bad (jb_cons js_bad (jb_cons js_bad (jb_one js_bad))))))))))))))))
theorem fn_law_behind {f : Addr} {fd : FuncData} (F : Fun K "_law_behind" "_law_behind" s_law_behind f fd) (T : Txt K mg) (c_law_done : Cal P w K mg base cm 4 "_law_done" 3 G_law_done) : FnS P w K mg base cm 5 f fd p_law_behind M_law_behind :=
  fn_body F sc_law_behind fun cdv A outer s H E hr => show JB _ cm W0 (defBody s_law_behind) _ from (jb_cons (js_set (i := 5) sc_law_behind.nd rfl (by first | exact Or.inl rfl | exact Or.inr rfl) (je_ixD hr.units (je_ixD hr.units (je_var 0) je_int) (je_ixD hr.units (je_var 3) je_int))) (jb_cons (js_par3 (i := 6) (j := 7) (l := 8) rfl sc_law_behind.nd rfl rfl rfl (by decide) (by decide) (by decide) rfl rfl rfl (ja_cons (je_ixD hr.units (je_var 3) je_int) (ja_cons (je_callTy call_list_of cs_listN (by rfl) T.b_list (by decide +kernel) (ja_cons (je_ixD hr.units (je_var 3) je_int) ja_nil)) (ja_cons (je_callTy call_list_of cs_listN (by rfl) T.b_list (by decide +kernel) (ja_cons (je_ixD hr.units (je_var 3) je_int) ja_nil)) ja_nil))) (by rfl)) (jb_cons (js_if (jt_cmp (op_eq' hr.units) os_eq (je_ixD hr.units (je_var 5) je_int) (je_str (by decide +kernel)) (by rfl)) (jb_one (js_ret (je_var 3))) jb_nil) (jb_cons (js_if (jt_cmp (op_eq' hr.units) os_eq (je_ixD hr.units (je_var 5) je_int) (je_str (by decide +kernel)) (by rfl)) (jb_one (js_ret (je_tup (ja_cons (je_ixD hr.units (je_var 5) je_int) (ja_cons (je_ixD hr.units (je_var 3) je_int) (ja_cons (je_ixD hr.units (je_var 3) je_int) ja_nil)))))) jb_nil) (jb_cons (js_if (jt_cmp (op_eq' hr.units) os_eq (je_ixD hr.units (je_var 5) je_int) (je_str (by decide +kernel)) (by rfl)) (jb_one (js_ret (je_tup (ja_cons (je_if (jt_cmp (op_ne' hr.units) os_ne (je_ixD hr.units (je_var 7) (je_ixD hr.units (je_var 5) je_int)) je_int (by rfl)) (je_ixD hr.units (je_var 5) je_int) (je_bin op_addX os_addX (je_var 6) je_int)) (ja_cons (je_ixD hr.units (je_var 3) je_int) (ja_cons (je_ixD hr.units (je_var 3) je_int) ja_nil)))))) jb_nil) (jb_cons (js_if (jt_cmp (op_eq' hr.units) os_eq (je_ixD hr.units (je_var 5) je_int) (je_str (by decide +kernel)) (by rfl)) (jb_one (js_asg (own := []) (je_var 4) (jg_sub (je_var 7) (je_ixD hr.units (je_var 5) je_int)))) (jb_one (js_if (jt_cmp (op_eq' hr.units) os_eq (je_ixD hr.units (je_var 5) je_int) (je_str (by decide +kernel)) (by rfl)) (jb_one (js_asg (own := []) (je_var 4) (jg_sub (je_var 7) (je_ixD hr.units (je_var 5) je_int)))) (jb_one (js_if (jt_cmp op_in_seq (os_in false) (je_ixD hr.units (je_var 5) je_int) (je_lst (ja_cons (je_str (by decide +kernel)) (ja_cons (je_str (by decide +kernel)) (ja_cons (je_str (by decide +kernel)) (ja_cons (je_str (by decide +kernel)) (ja_cons (je_str (by decide +kernel)) (ja_cons (je_str (by decide +kernel)) (ja_cons (je_str (by decide +kernel)) (ja_cons (je_str (by decide +kernel)) ja_nil))))))))) (by rfl)) (jb_cons (js_set (i := 9) sc_law_behind.nd rfl (by first | exact Or.inl rfl | exact Or.inr rfl) (je_disp (jps_cons (je_str (by decide +kernel)) (je_var 7) (jps_cons (je_str (by decide +kernel)) (je_var 8) jps_nil)) (by rfl) (by rfl) (fun z => by cases z) (by decide))) (jb_one (js_expr (je_fn c_law_done hr (by decide) (by rfl) (ja_cons (je_disp (jps_cons (je_str (by decide +kernel)) (je_disp (jps_cons (je_var 2) (je_var 9) jps_nil) (by rfl) (by rfl) (fun z => by cases z) (by decide)) (jps_cons (je_str (by decide +kernel)) (je_var 1) jps_nil)) (by rfl) (by rfl) (fun z => by cases z) (by decide)) (ja_cons (je_var 2) (ja_cons (je_var 5) ja_nil))))))) jb_nil))))) (jb_one (js_ret (je_tup (ja_cons (je_bin op_addX os_addX (je_var 6) je_int) (ja_cons (je_callTy call_tuple_of cs_tup (by rfl) T.b_tuple (by decide +kernel) (ja_cons (je_var 7) ja_nil)) (ja_cons (je_callTy call_tuple_of cs_tup (by rfl) T.b_tuple (by decide +kernel) (ja_cons (je_var 8) ja_nil)) ja_nil))))))))))))
theorem fn_changed {f : Addr} {fd : FuncData} (F : Fun K "changed" "changed" s_changed f fd) (T : Txt K mg)  : FnS P w K mg base cm 1 f fd p_changed M_changed :=
  fn_body F sc_changed fun cdv A outer s H E hr => show JB _ cm W0 (defBody s_changed) _ from (jb_one (js_ret (je_bin op_addX os_addX (je_bin op_addX os_addX (je_sl (je_var 0) jo_none (jo_some (je_var 1))) (je_tup (ja_cons (je_var 2) ja_nil))) (je_sl (je_var 0) (jo_some (je_bin op_addX os_addX (je_var 1) je_int)) jo_none))))
theorem fn_special {f : Addr} {fd : FuncData} (F : Fun K "special" "special" s_special f fd) (T : Txt K mg)  : FnS P w K mg base cm 1 f fd p_special M_special :=
  fn_body F sc_special fun cdv A outer s H E hr => show JB _ cm W0 (defBody s_special) _ from (jb_cons (js_asg (own := [3, 4, 5, 5]) (je_var 2) (jg_tup rfl sc_special.nd (.cons rfl (by first | exact Or.inl rfl | exact Or.inr rfl) (by first | exact .inl rfl | exact .inr rfl) (by decide) (by rfl) (.cons rfl (by first | exact Or.inl rfl | exact Or.inr rfl) (by first | exact .inl rfl | exact .inr rfl) (by decide) (by rfl) (.cons rfl (by first | exact Or.inl rfl | exact Or.inr rfl) (by first | exact .inl rfl | exact .inr rfl) (by decide) (by rfl) (.cons rfl (by first | exact Or.inl rfl | exact Or.inr rfl) (by first | exact .inl rfl | exact .inr rfl) (by decide) (by rfl) .nil)))))) (jb_cons (js_if (jt_cmp (op_eq' hr.units) os_eq (je_var 0) (je_str (by decide +kernel)) (by rfl)) (jb_one (js_ret (je_bin op_mod os_mod (je_var 1) (je_var 4)))) jb_nil) (jb_cons (js_if (jt_cmp (op_eq' hr.units) os_eq (je_var 0) (je_str (by decide +kernel)) (by rfl)) (jb_one (js_ret (je_bin op_fdivW os_div (je_var 1) (je_var 4)))) jb_nil) (jb_cons (js_if (jt_cmp (op_eq' hr.units) os_eq (je_var 0) (je_str (by decide +kernel)) (by rfl)) (jb_one (js_ret (je_var 4))) jb_nil) (jb_one (js_ret (je_var 3)))))))
theorem fn_wrapped {f : Addr} {fd : FuncData} (F : Fun K "wrapped" "wrapped" s_wrapped f fd) (T : Txt K mg)  : FnS P w K mg base cm 1 f fd p_wrapped M_wrapped :=
  fn_body F sc_wrapped fun cdv A outer s H E hr => show JB _ cm W0 (defBody s_wrapped) _ from (jb_cons (js_set (i := 1) sc_wrapped.nd rfl (by first | exact Or.inl rfl | exact Or.inr rfl) (je_bin op_mod os_mod (je_var 0) (T.c_MODULUS.je (by rfl)))) (jb_cons (js_if (jt_cmp op_gt os_gt (je_var 1) (T.c_GREATEST.je (by rfl)) (by rfl)) (jb_one (js_ret (je_bin op_sub os_sub (je_var 1) (T.c_MODULUS.je (by rfl))))) jb_nil) (jb_one (js_ret (je_var 1)))))
theorem fn_unary {f : Addr} {fd : FuncData} (F : Fun K "unary" "unary" s_unary f fd) (T : Txt K mg) (c_wrapped : Cal P w K mg base cm 1 "wrapped" 1 G_wrapped) : FnS P w K mg base cm 2 f fd p_unary M_unary :=
  fn_body F sc_unary fun cdv A outer s H E hr => show JB _ cm W0 (defBody s_unary) _ from (jb_cons (js_if (jt_cmp (op_eq' hr.units) os_eq (je_var 0) (je_str (by decide +kernel)) (by rfl)) (jb_one (js_ret (je_fn c_wrapped hr (by decide) (by rfl) (ja_cons (je_un un_neg us_neg (je_var 1)) ja_nil)))) jb_nil) (jb_cons (js_if (jt_cmp (op_eq' hr.units) os_eq (je_var 0) (je_str (by decide +kernel)) (by rfl)) (jb_one (js_ret (je_fn c_wrapped hr (by decide) (by rfl) (ja_cons (je_bin op_sub os_sub (je_un un_neg us_neg (je_var 1)) je_int) ja_nil)))) jb_nil) (jb_one (js_ret (je_callTy call_int1 cs_int (by rfl) T.b_int (by decide +kernel) (ja_cons (je_cmp (op_eq' hr.units) os_eq (je_var 1) je_int (by rfl)) ja_nil))))))
theorem fn_divided {f : Addr} {fd : FuncData} (F : Fun K "divided" "divided" s_divided f fd) (T : Txt K mg)  : FnS P w K mg base cm 1 f fd p_divided M_divided :=
  fn_body F sc_divided fun cdv A outer s H E hr => show JB _ cm W0 (defBody s_divided) _ from (jb_cons (js_if (jt_cmp (op_eq' hr.units) os_eq (je_var 1) je_int (by rfl)) (jb_one (js_ret je_int)) jb_nil) (jb_cons (js_set (i := 2) sc_divided.nd rfl (by first | exact Or.inl rfl | exact Or.inr rfl) (je_bin op_fdivW os_div (je_callB call_abs cs_abs (by rfl) T.b_abs (by decide +kernel) (ja_cons (je_var 0) ja_nil)) (je_callB call_abs cs_abs (by rfl) T.b_abs (by decide +kernel) (ja_cons (je_var 1) ja_nil)))) (jb_cons (js_if (jt_cmp (op_ne' hr.units) os_ne (je_cmp op_lt os_lt (je_var 0) je_int (by rfl)) (je_cmp op_lt os_lt (je_var 1) je_int (by rfl)) (by rfl)) (jb_one (js_ret (je_un un_neg us_neg (je_var 2)))) jb_nil) (jb_one (js_ret (je_var 2))))))
theorem fn_arithmetic {f : Addr} {fd : FuncData} (F : Fun K "arithmetic" "arithmetic" s_arithmetic f fd) (T : Txt K mg) (c_divided : Cal P w K mg base cm 1 "divided" 2 G_divided) : FnS P w K mg base cm 2 f fd p_arithmetic M_arithmetic :=
  fn_body F sc_arithmetic fun cdv A outer s H E hr => show JB _ cm W0 (defBody s_arithmetic) _ from (jb_cons (js_if (jt_cmp (op_eq' hr.units) os_eq (je_var 0) (je_str (by decide +kernel)) (by rfl)) (jb_one (js_ret (je_bin op_addX os_addX (je_var 1) (je_var 2)))) jb_nil) (jb_cons (js_if (jt_cmp (op_eq' hr.units) os_eq (je_var 0) (je_str (by decide +kernel)) (by rfl)) (jb_one (js_ret (je_bin op_sub os_sub (je_var 1) (je_var 2)))) jb_nil) (jb_cons (js_if (jt_cmp (op_eq' hr.units) os_eq (je_var 0) (je_str (by decide +kernel)) (by rfl)) (jb_one (js_ret (je_bin op_mulX' os_mulX (je_var 1) (je_var 2)))) jb_nil) (jb_cons (js_if (jt_cmp (op_eq' hr.units) os_eq (je_var 0) (je_str (by decide +kernel)) (by rfl)) (jb_one (js_ret (je_fn c_divided hr (by decide) (by rfl) (ja_cons (je_var 1) (ja_cons (je_var 2) ja_nil))))) jb_nil) (jb_cons (js_if (jt_cmp (op_eq' hr.units) os_eq (je_var 0) (je_str (by decide +kernel)) (by rfl)) (jb_cons (js_if (jt_cmp (op_eq' hr.units) os_eq (je_var 2) je_int (by rfl)) (jb_one (js_ret je_int)) jb_nil) (jb_one (js_ret (je_bin op_sub os_sub (je_var 1) (je_bin op_mulX' os_mulX (je_fn c_divided hr (by decide) (by rfl) (ja_cons (je_var 1) (ja_cons (je_var 2) ja_nil))) (je_var 2)))))) jb_nil) (jb_one (js_ret je_non)))))))
theorem fn_bits {f : Addr} {fd : FuncData} (F : Fun K "bits" "bits" s_bits f fd) (T : Txt K mg)  : FnS P w K mg base cm 1 f fd p_bits M_bits :=
  fn_body F sc_bits fun cdv A outer s H E hr => show JB _ cm W0 (defBody s_bits) _ from (jb_cons (js_if (jt_cmp (op_eq' hr.units) os_eq (je_var 0) (je_str (by decide +kernel)) (by rfl)) (jb_one (js_ret (je_bin op_and os_and (je_var 1) (je_var 2)))) jb_nil) (jb_cons (js_if (jt_cmp (op_eq' hr.units) os_eq (je_var 0) (je_str (by decide +kernel)) (by rfl)) (jb_one (js_ret (je_bin op_or os_or (je_var 1) (je_var 2)))) jb_nil) (jb_cons (js_if (jt_cmp (op_eq' hr.units) os_eq (je_var 0) (je_str (by decide +kernel)) (by rfl)) (jb_one (js_ret (je_bin op_xor os_xor (je_var 1) (je_var 2)))) jb_nil) (jb_cons (js_if (jt_cmp (op_eq' hr.units) os_eq (je_var 0) (je_str (by decide +kernel)) (by rfl)) (jb_one (js_ret (je_bin op_shl os_shl (je_var 1) (je_bin op_mod os_mod (je_var 2) je_int)))) jb_nil) (jb_cons (js_if (jt_cmp (op_eq' hr.units) os_eq (je_var 0) (je_str (by decide +kernel)) (by rfl)) (jb_one (js_ret (je_bin op_shr os_shr (je_var 1) (je_bin op_mod os_mod (je_var 2) je_int)))) jb_nil) (jb_one (js_ret je_non)))))))
theorem fn_compared {f : Addr} {fd : FuncData} (F : Fun K "compared" "compared" s_compared f fd) (T : Txt K mg)  : FnS P w K mg base cm 1 f fd p_compared M_compared :=
  fn_body F sc_compared fun cdv A outer s H E hr => show JB _ cm W0 (defBody s_compared) _ from (jb_cons (js_if (jt_cmp (op_eq' hr.units) os_eq (je_var 0) (je_str (by decide +kernel)) (by rfl)) (jb_one (js_ret (je_callTy call_int1 cs_int (by rfl) T.b_int (by decide +kernel) (ja_cons (je_cmp op_lt os_lt (je_var 1) (je_var 2) (by rfl)) ja_nil)))) jb_nil) (jb_cons (js_if (jt_cmp (op_eq' hr.units) os_eq (je_var 0) (je_str (by decide +kernel)) (by rfl)) (jb_one (js_ret (je_callTy call_int1 cs_int (by rfl) T.b_int (by decide +kernel) (ja_cons (je_cmp op_le os_le (je_var 1) (je_var 2) (by rfl)) ja_nil)))) jb_nil) (jb_cons (js_if (jt_cmp (op_eq' hr.units) os_eq (je_var 0) (je_str (by decide +kernel)) (by rfl)) (jb_one (js_ret (je_callTy call_int1 cs_int (by rfl) T.b_int (by decide +kernel) (ja_cons (je_cmp (op_eq' hr.units) os_eq (je_var 1) (je_var 2) (by rfl)) ja_nil)))) jb_nil) (jb_cons (js_if (jt_cmp (op_eq' hr.units) os_eq (je_var 0) (je_str (by decide +kernel)) (by rfl)) (jb_one (js_ret (je_callTy call_int1 cs_int (by rfl) T.b_int (by decide +kernel) (ja_cons (je_cmp (op_ne' hr.units) os_ne (je_var 1) (je_var 2) (by rfl)) ja_nil)))) jb_nil) (jb_cons (js_if (jt_cmp (op_eq' hr.units) os_eq (je_var 0) (je_str (by decide +kernel)) (by rfl)) (jb_one (js_ret (je_callB (call_min2 rfl) cs_min (by rfl) T.b_min (by decide +kernel) (ja_cons (je_var 1) (ja_cons (je_var 2) ja_nil))))) jb_nil) (jb_one (js_ret (je_callB (call_max2 rfl) cs_max (by rfl) T.b_max (by decide +kernel) (ja_cons (je_var 1) (ja_cons (je_var 2) ja_nil))))))))))
theorem fn_binary {f : Addr} {fd : FuncData} (F : Fun K "binary" "binary" s_binary f fd) (T : Txt K mg) (c_arithmetic : Cal P w K mg base cm 2 "arithmetic" 3 G_arithmetic) (c_bits : Cal P w K mg base cm 1 "bits" 3 G_bits) (c_compared : Cal P w K mg base cm 1 "compared" 3 G_compared) (c_wrapped : Cal P w K mg base cm 1 "wrapped" 1 G_wrapped) : FnS P w K mg base cm 3 f fd p_binary M_binary :=
  fn_body F sc_binary fun cdv A outer s H E hr => show JB _ cm W0 (defBody s_binary) _ from (jb_cons (js_set (i := 3) sc_binary.nd rfl (by first | exact Or.inl rfl | exact Or.inr rfl) (je_fn c_arithmetic hr (by decide) (by rfl) (ja_cons (je_var 0) (ja_cons (je_var 1) (ja_cons (je_var 2) ja_nil))))) (jb_cons (js_if (jt_cmp op_isN os_isN (je_var 3) je_non (by rfl)) (jb_one (js_set (i := 3) sc_binary.nd rfl (by first | exact Or.inl rfl | exact Or.inr rfl) (je_fn c_bits hr (by decide) (by rfl) (ja_cons (je_var 0) (ja_cons (je_var 1) (ja_cons (je_var 2) ja_nil)))))) jb_nil) (jb_cons (js_if (jt_cmp op_isN os_isN (je_var 3) je_non (by rfl)) (jb_one (js_set (i := 3) sc_binary.nd rfl (by first | exact Or.inl rfl | exact Or.inr rfl) (je_fn c_compared hr (by decide) (by rfl) (ja_cons (je_var 0) (ja_cons (je_var 1) (ja_cons (je_var 2) ja_nil)))))) jb_nil) (jb_one (js_ret (je_fn c_wrapped hr (by decide) (by rfl) (ja_cons (je_var 3) ja_nil)))))))
theorem fn_result {f : Addr} {fd : FuncData} (F : Fun K "result" "result" s_result f fd) (T : Txt K mg) (c_special : Cal P w K mg base cm 1 "special" 3 G_special) (c_unary : Cal P w K mg base cm 2 "unary" 2 G_unary) (c_binary : Cal P w K mg base cm 3 "binary" 3 G_binary) : FnS P w K mg base cm 4 f fd p_result M_result :=
  fn_body F sc_result fun cdv A outer s H E hr => show JB _ cm W0 (defBody s_result) _ from (jb_cons (js_set (i := 5) sc_result.nd rfl (by first | exact Or.inl rfl | exact Or.inr rfl) (je_ixD hr.units (je_var 0) je_int)) (jb_cons (js_set (i := 6) sc_result.nd rfl (by first | exact Or.inl rfl | exact Or.inr rfl) (je_ixD hr.units (je_var 1) je_int)) (jb_cons (js_if (jt_cmp (op_eq' hr.units) os_eq (je_var 5) (je_str (by decide +kernel)) (by rfl)) (jb_one (js_ret (je_tup (ja_cons (je_ixD hr.units (je_var 0) je_int) (ja_cons (je_ixD hr.units (je_var 0) je_int) ja_nil))))) jb_nil) (jb_cons (js_if (jt_cmp (op_eq' hr.units) os_eq (je_var 5) (je_str (by decide +kernel)) (by rfl)) (jb_one (js_ret (je_tup (ja_cons (je_ixD hr.units (je_var 0) je_int) (ja_cons (je_ixD hr.units (je_ixD hr.units (je_var 2) je_int) (je_ixD hr.units (je_var 0) je_int)) ja_nil))))) jb_nil) (jb_cons (js_if (jt_cmp (op_eq' hr.units) os_eq (je_var 5) (je_str (by decide +kernel)) (by rfl)) (jb_one (js_ret (je_tup (ja_cons (je_ixD hr.units (je_var 0) je_int) (ja_cons (je_fn c_special hr (by decide) (by rfl) (ja_cons (je_ixD hr.units (je_var 0) je_int) (ja_cons (je_var 3) (ja_cons (je_var 2) ja_nil)))) ja_nil))))) jb_nil) (jb_cons (js_if (jt_cmp (op_eq' hr.units) os_eq (je_var 5) (je_str (by decide +kernel)) (by rfl)) (jb_one (js_ret (je_tup (ja_cons (je_ixD hr.units (je_var 0) je_int) (ja_cons (je_ixD hr.units (je_var 6) (je_ixD hr.units (je_var 0) je_int)) ja_nil))))) jb_nil) (jb_cons (js_if (jt_cmp (op_eq' hr.units) os_eq (je_var 5) (je_str (by decide +kernel)) (by rfl)) (jb_one (js_ret (je_tup (ja_cons (je_ixD hr.units (je_var 0) je_int) (ja_cons (je_fn c_unary hr (by decide) (by rfl) (ja_cons (je_ixD hr.units (je_var 0) je_int) (ja_cons (je_ixD hr.units (je_var 6) (je_ixD hr.units (je_var 0) je_int)) ja_nil))) ja_nil))))) jb_nil) (jb_cons (js_if (jt_cmp (op_eq' hr.units) os_eq (je_var 5) (je_str (by decide +kernel)) (by rfl)) (jb_one (js_ret (je_tup (ja_cons (je_ixD hr.units (je_var 0) je_int) (ja_cons (je_fn c_binary hr (by decide) (by rfl) (ja_cons (je_ixD hr.units (je_var 0) je_int) (ja_cons (je_ixD hr.units (je_var 6) (je_ixD hr.units (je_var 0) je_int)) (ja_cons (je_ixD hr.units (je_var 6) (je_ixD hr.units (je_var 0) je_int)) ja_nil)))) ja_nil))))) jb_nil) (jb_cons (js_if (jt_cmp (op_eq' hr.units) os_eq (je_var 5) (je_str (by decide +kernel)) (by rfl)) (jb_one (js_ret (je_tup (ja_cons (je_ixD hr.units (je_var 0) je_int) (ja_cons (je_ixD hr.units (je_ixD hr.units (je_var 1) je_int) (je_ixD hr.units (je_var 0) je_int)) ja_nil))))) jb_nil) (jb_cons (js_if (jt_cmp (op_eq' hr.units) os_eq (je_var 5) (je_str (by decide +kernel)) (by rfl)) (jb_one (js_ret (je_tup (ja_cons (je_ixD hr.units (je_var 0) je_int) (ja_cons (je_var 4) ja_nil))))) jb_nil) (jb_cons (js_if (jt_cmp (op_eq' hr.units) os_eq (je_var 5) (je_str (by decide +kernel)) (by rfl)) (jb_one (js_ret (je_tup (ja_cons (je_ixD hr.units (je_var 0) je_int) (ja_cons (je_var 4) ja_nil))))) jb_nil) (jb_one (js_ret je_non)))))))))))))
theorem fn_behind {f : Addr} {fd : FuncData} (F : Fun K "behind" "behind" s_behind f fd) (T : Txt K mg) (c_changed : Cal P w K mg base cm 1 "changed" 3 G_changed) (c_result : Cal P w K mg base cm 4 "result" 5 G_result) : FnS P w K mg base cm 5 f fd p_behind M_behind :=
  fn_body F sc_behind fun cdv A outer s H E hr => show JB _ cm W0 (defBody s_behind) _ from (jb_cons (js_asg (own := [5, 6, 7]) (je_var 3) (jg_tup rfl sc_behind.nd (.cons rfl (by first | exact Or.inl rfl | exact Or.inr rfl) (by first | exact .inl rfl | exact .inr rfl) (by decide) (by rfl) (.cons rfl (by first | exact Or.inl rfl | exact Or.inr rfl) (by first | exact .inl rfl | exact .inr rfl) (by decide) (by rfl) (.cons rfl (by first | exact Or.inl rfl | exact Or.inr rfl) (by first | exact .inl rfl | exact .inr rfl) (by decide) (by rfl) .nil))))) (jb_cons (js_set (i := 8) sc_behind.nd rfl (by first | exact Or.inl rfl | exact Or.inr rfl) (je_ixD hr.units (je_ixD hr.units (je_var 0) je_int) (je_var 5))) (jb_cons (js_set (i := 9) sc_behind.nd rfl (by first | exact Or.inl rfl | exact Or.inr rfl) (je_ixD hr.units (je_var 8) je_int)) (jb_cons (js_if (jt_cmp (op_eq' hr.units) os_eq (je_var 9) (je_str (by decide +kernel)) (by rfl)) (jb_one (js_ret (je_var 3))) jb_nil) (jb_cons (js_set (i := 10) sc_behind.nd rfl (by first | exact Or.inl rfl | exact Or.inr rfl) (je_bin op_addX os_addX (je_var 5) je_int)) (jb_cons (js_if (jt_cmp (op_eq' hr.units) os_eq (je_var 9) (je_str (by decide +kernel)) (by rfl)) (jb_one (js_set (i := 10) sc_behind.nd rfl (by first | exact Or.inl rfl | exact Or.inr rfl) (je_ixD hr.units (je_var 8) je_int))) (jb_one (js_if (jt_w (jw_and (jt_cmp (op_eq' hr.units) os_eq (je_var 9) (je_str (by decide +kernel)) (by rfl)) (jw_and1 (jt_cmp (op_ne' hr.units) os_ne (je_ixD hr.units (je_var 6) (je_ixD hr.units (je_var 8) je_int)) je_int (by rfl))))) (jb_one (js_set (i := 10) sc_behind.nd rfl (by first | exact Or.inl rfl | exact Or.inr rfl) (je_ixD hr.units (je_var 8) je_int))) jb_nil))) (jb_cons (js_if (jt_cmp (op_eq' hr.units) os_eq (je_var 9) (je_str (by decide +kernel)) (by rfl)) (jb_one (js_ret (je_tup (ja_cons (je_var 10) (ja_cons (je_var 6) (ja_cons (je_fn c_changed hr (by decide) (by rfl) (ja_cons (je_var 7) (ja_cons (je_ixD hr.units (je_var 8) je_int) (ja_cons (je_ixD hr.units (je_var 6) (je_ixD hr.units (je_var 8) je_int)) ja_nil)))) ja_nil)))))) jb_nil) (jb_cons (js_set (i := 11) sc_behind.nd rfl (by first | exact Or.inl rfl | exact Or.inr rfl) (je_fn c_result hr (by decide) (by rfl) (ja_cons (je_var 8) (ja_cons (je_var 3) (ja_cons (je_var 1) (ja_cons (je_var 2) (ja_cons (je_var 4) ja_nil))))))) (jb_cons (js_if (jt_cmp op_notN os_notN (je_var 11) je_non (by rfl)) (jb_one (js_set (i := 6) sc_behind.nd rfl (by first | exact Or.inl rfl | exact Or.inr rfl) (je_fn c_changed hr (by decide) (by rfl) (ja_cons (je_var 6) (ja_cons (je_ixD hr.units (je_var 11) je_int) (ja_cons (je_ixD hr.units (je_var 11) je_int) ja_nil)))))) jb_nil) (jb_one (js_ret (je_tup (ja_cons (je_var 10) (ja_cons (je_var 6) (ja_cons (je_var 7) ja_nil)))))))))))))))
theorem fn_law {f : Addr} {fd : FuncData} (F : Fun K "law" "law" s_law f fd) (T : Txt K mg) (c_law_stream : Cal P w K mg base cm 1 "_law_stream" 1 G_law_stream) (c_law_code : Cal P w K mg base cm 5 "_law_code" 1 G_law_code) (c_law_launch : Cal P w K mg base cm 4 "_law_launch" 2 G_law_launch) (c_law_draw : Cal P w K mg base cm 1 "_law_draw" 2 G_law_draw) (c_first_lane : Cal P w K mg base cm 1 "first_lane" 1 G_first_lane) (c_law_same : Cal P w K mg base cm 4 "_law_same" 2 G_law_same) (c_law_request : Cal P w K mg base cm 1 "_law_request" 2 G_law_request) (c_request : Cal P w K mg base cm 1 "request" 2 G_request) (c_law_word : Cal P w K mg base cm 3 "_law_word" 1 G_law_word) (c_law_behind : Cal P w K mg base cm 5 "_law_behind" 5 G_law_behind) (c_behind : Cal P w K mg base cm 5 "behind" 5 G_behind) : FnS P w K mg base cm 6 f fd p_law M_law :=
  fn_body F sc_law fun cdv A outer s H E hr => show JB _ cm W0 (defBody s_law) _ from (jb_cons (js_set (i := 1) sc_law.nd rfl (by first | exact Or.inl rfl | exact Or.inr rfl) (je_fn c_law_stream hr (by decide) (by rfl) (ja_cons (je_var 0) ja_nil))) (jb_cons (js_set (i := 2) sc_law.nd rfl (by first | exact Or.inl rfl | exact Or.inr rfl) (je_fn c_law_code hr (by decide) (by rfl) (ja_cons (je_var 1) ja_nil))) (jb_cons (js_set (i := 3) sc_law.nd rfl (by first | exact Or.inl rfl | exact Or.inr rfl) (je_fn c_law_launch hr (by decide) (by rfl) (ja_cons (je_var 1) (ja_cons (je_var 2) ja_nil)))) (jb_cons (js_set (i := 4) sc_law.nd rfl (by first | exact Or.inl rfl | exact Or.inr rfl) (je_fn c_law_draw hr (by decide) (by rfl) (ja_cons (je_var 1) (ja_cons (je_bin op_mulX' os_mulX (je_ixD hr.units (je_var 3) je_int) (je_ixD hr.units (je_var 3) je_int)) ja_nil)))) (jb_cons (js_set (i := 5) sc_law.nd rfl (by first | exact Or.inl rfl | exact Or.inr rfl) (je_fn c_first_lane hr (by decide) (by rfl) (ja_cons (je_var 2) ja_nil))) (jb_cons (js_if (jt_not (jt_tru (je_fn c_law_same hr (by decide) (by rfl) (ja_cons (je_var 5) (ja_cons (je_tup (ja_cons je_int (ja_cons (je_bin op_mulX' os_mulX (je_tup (ja_cons je_int ja_nil)) je_int) (ja_cons (je_bin op_mulX' os_mulX (je_tup (ja_cons je_int ja_nil)) (je_ixD hr.units (je_var 2) je_int)) ja_nil)))) ja_nil))))) (jb_one (js_ret je_bl)) jb_nil) (jb_cons (js_for (own := [6]) PassesOwn.never rfl (ji_range1 (by rfl) T.b_range je_int) (jg_name (i := 6) (by decide) sc_law.nd rfl (by first | exact Or.inl rfl | exact Or.inr rfl)) (jb_cons (js_set (i := 7) sc_law.nd rfl (by first | exact Or.inl rfl | exact Or.inr rfl) (je_fn c_law_request hr (by decide) (by rfl) (ja_cons (je_var 2) (ja_cons (je_var 5) ja_nil)))) (jb_cons (js_if (jt_not (jt_tru (je_fn c_law_same hr (by decide) (by rfl) (ja_cons (je_fn c_request hr (by decide) (by rfl) (ja_cons (je_var 2) (ja_cons (je_var 5) ja_nil))) (ja_cons (je_var 7) ja_nil))))) (jb_one (js_ret je_bl)) jb_nil) (jb_cons (js_set (i := 8) sc_law.nd rfl (by first | exact Or.inl rfl | exact Or.inr rfl) (je_fn c_law_word hr (by decide) (by rfl) (ja_cons (je_var 1) ja_nil))) (jb_cons (js_set (i := 9) sc_law.nd rfl (by first | exact Or.inl rfl | exact Or.inr rfl) (je_fn c_law_behind hr (by decide) (by rfl) (ja_cons (je_var 2) (ja_cons (je_var 3) (ja_cons (je_var 4) (ja_cons (je_var 5) (ja_cons (je_var 8) ja_nil))))))) (jb_cons (js_if (jt_not (jt_tru (je_fn c_law_same hr (by decide) (by rfl) (ja_cons (je_fn c_behind hr (by decide) (by rfl) (ja_cons (je_var 2) (ja_cons (je_var 3) (ja_cons (je_var 4) (ja_cons (je_var 5) (ja_cons (je_var 8) ja_nil)))))) (ja_cons (je_var 9) ja_nil))))) (jb_one (js_ret je_bl)) jb_nil) (jb_cons (js_if (jt_w (jw_and (jt_cmp op_notIn_seq (os_in true) (je_ixD hr.units (je_var 7) je_int) (je_lst (ja_cons (je_str (by decide +kernel)) (ja_cons (je_str (by decide +kernel)) ja_nil))) (by rfl)) (jw_and1 (jt_not (jt_tru (je_fn c_law_same hr (by decide) (by rfl) (ja_cons (je_fn c_behind hr (by decide) (by rfl) (ja_cons (je_var 2) (ja_cons (je_var 3) (ja_cons (je_var 4) (ja_cons (je_var 5) (ja_cons (je_if (jt_cmp op_lt os_lt (je_var 8) je_int (by rfl)) (je_bin op_addX os_addX (je_var 8) je_int) je_int) ja_nil)))))) (ja_cons (je_var 9) ja_nil)))))))) (jb_one (js_ret je_bl)) jb_nil) (jb_cons (js_set (i := 10) sc_law.nd rfl (by first | exact Or.inl rfl | exact Or.inr rfl) (je_fn c_law_draw hr (by decide) (by rfl) (ja_cons (je_var 1) (ja_cons (je_callB call_len cs_len (by rfl) T.b_len (by decide +kernel) (ja_cons (je_ixD hr.units (je_var 2) je_int) ja_nil)) ja_nil)))) (jb_cons (js_set (i := 11) sc_law.nd rfl (by first | exact Or.inl rfl | exact Or.inr rfl) (je_tup (ja_cons (je_var 10) (ja_cons (je_callTy call_tuple_of cs_tup (by rfl) T.b_tuple (by decide +kernel) (ja_cons (je_lc (own := [("j", 12)]) rfl sc_law.nd (ji_range1 (by rfl) T.b_range je_int) (blkOk_by (own := [("j", 12)]) (N := n_law) (sc := defScope s_law) (by decide +kernel)) (fun _ _ _ _ _ => (jg_name (i := 12) (by decide) sc_law.nd rfl (by first | exact Or.inl rfl | exact Or.inr rfl))) (fun _ _ _ _ _ => jts_nil) (fun _ _ _ _ _ => (je_fn c_law_word hr (by decide) (by rfl) (ja_cons (je_var 1) ja_nil)))) ja_nil)) (ja_cons (je_callTy call_tuple_of cs_tup (by rfl) T.b_tuple (by decide +kernel) (ja_cons (je_lc (own := [("j", 12)]) rfl sc_law.nd (ji_range1 (by rfl) T.b_range (je_ixD hr.units (je_var 2) je_int)) (blkOk_by (own := [("j", 12)]) (N := n_law) (sc := defScope s_law) (by decide +kernel)) (fun _ _ _ _ _ => (jg_name (i := 12) (by decide) sc_law.nd rfl (by first | exact Or.inl rfl | exact Or.inr rfl))) (fun _ _ _ _ _ => jts_nil) (fun _ _ _ _ _ => (je_fn c_law_word hr (by decide) (by rfl) (ja_cons (je_var 1) ja_nil)))) ja_nil)) ja_nil))))) (jb_cons (js_if (jt_not (jt_tru (je_fn c_law_same hr (by decide) (by rfl) (ja_cons (je_fn c_request hr (by decide) (by rfl) (ja_cons (je_var 2) (ja_cons (je_var 11) ja_nil))) (ja_cons (je_fn c_law_request hr (by decide) (by rfl) (ja_cons (je_var 2) (ja_cons (je_var 11) ja_nil))) ja_nil))))) (jb_one (js_ret je_bl)) jb_nil) (jb_cons (js_if (jt_not (jt_tru (je_fn c_law_same hr (by decide) (by rfl) (ja_cons (je_fn c_behind hr (by decide) (by rfl) (ja_cons (je_var 2) (ja_cons (je_var 3) (ja_cons (je_var 4) (ja_cons (je_var 11) (ja_cons (je_var 8) ja_nil)))))) (ja_cons (je_fn c_law_behind hr (by decide) (by rfl) (ja_cons (je_var 2) (ja_cons (je_var 3) (ja_cons (je_var 4) (ja_cons (je_var 11) (ja_cons (je_var 8) ja_nil)))))) ja_nil))))) (jb_one (js_ret je_bl)) jb_nil) (jb_one (js_set (i := 5) sc_law.nd rfl (by first | exact Or.inl rfl | exact Or.inr rfl) (je_var 9)))))))))))))) (jb_one (js_ret je_bl)))))))))
end
end Lw

set_option Elab.async false
set_option linter.all false
set_option maxRecDepth 100000
/-! SxEnd: what the top has written; the end of a law. -/
namespace Lw
open PySem PySem.Spec L2 Sx
open PyProof.Rows hiding St
/-- a def of the top -/
def DefAt (K : PySem.W.Frag) (x : Str) (st : Stmt) : Prop := ∃ (f : Addr) (fd : FuncData), PySem.W.nsIn K mainGlobals x = some (some (.ref f)) ∧ Fun K x x st f fd
theorem dmk {K : PySem.W.Frag} {x : Str} {st : Stmt} {f : Addr} {oc : Value} {od an : Option Addr} {osl : Array (Option Value)} {kV doc pm cdv ct : Value} (a : PySem.W.nsIn K mainGlobals x = some (some (.ref f)))
    (l : K.lookup f = some ⟨oc, od, .func (PySem.W.fnOf x x (defArgs st) (defBody st) (defScope st) .none kV doc pm an cdv ct), osl⟩) (c : PySem.W.codeIn K cdv x = true) (k : PySem.W.keepIn K (.ref f) = true) : DefAt K x st :=
  ⟨f, _, a, fun_mk l c k⟩
def IntAt (K : PySem.W.Frag) (x : Str) (i : Int) : Prop := ∃ t : Tok, PySem.W.nsIn K mainGlobals x = some (some (.int i t))
theorem imk {K : PySem.W.Frag} {x : Str} {i : Int} {t : Tok} (a : PySem.W.nsIn K mainGlobals x = some (some (.int i t))) : IntAt K x i := ⟨t, a⟩
theorem IntAt.c {K : PySem.W.Frag} {h : Heap} {mg : Str → Option Value} {x : Str} {i : Int} (z : IntAt K x i) (X : K.In h) (G : h.Ns mainGlobals mg) : KConst K mg x (.int i) := by
  obtain ⟨t, a⟩ := z
  exact kconst_int (PySem.W.mg_of X G a)
def StrAt (K : PySem.W.Frag) (x : Str) (z : List Nat) : Prop := ∃ (y : Str) (t : Tok), PySem.W.nsIn K mainGlobals x = some (some (.str y t)) ∧ y.cps.toList = z
theorem smk {K : PySem.W.Frag} {x y : Str} {z : List Nat} {t : Tok} (a : PySem.W.nsIn K mainGlobals x = some (some (.str y t))) (h : y.cps.toList = z) : StrAt K x z := ⟨y, t, a, h⟩
theorem StrAt.c {K : PySem.W.Frag} {h : Heap} {mg : Str → Option Value} {x : Str} {z : List Nat} (s : StrAt K x z) (X : K.In h) (G : h.Ns mainGlobals mg) : KConst K mg x (.str z) := by
  obtain ⟨y, t, a, e⟩ := s
  exact ⟨_, .str y, PySem.W.mg_of X G a, ⟨t, rfl⟩, fun _ => ⟨y, rfl, e⟩⟩
def TupAt (K : PySem.W.Frag) (x : Str) (vs : List Val) : Prop := ∃ (a : Addr) (o : Obj) (us : List Value) (n : Nat), PySem.W.nsIn K mainGlobals x = some (some (.ref a)) ∧ K.lookup a = some o ∧ o.cls = .type "tuple" ∧ o.data = .seq us.toArray n ∧ us.length ≤ sizeLine ∧ Flats vs us
theorem tmk {K : PySem.W.Frag} {x : Str} {vs : List Val} {a : Addr} {o : Obj} {us : List Value} {n : Nat} (h1 : PySem.W.nsIn K mainGlobals x = some (some (.ref a))) (h2 : K.lookup a = some o) (h3 : o.cls = .type "tuple") (h4 : o.data = .seq us.toArray n) (h5 : us.length ≤ sizeLine) (h6 : Flats vs us) : TupAt K x vs :=
  ⟨a, o, us, n, h1, h2, h3, h4, h5, h6⟩
theorem TupAt.c {K : PySem.W.Frag} {h : Heap} {mg : Str → Option Value} {x : Str} {vs : List Val} (z : TupAt K x vs) (X : K.In h) (G : h.Ns mainGlobals mg) : KConst K mg x (.tup vs) := by
  obtain ⟨a, o, us, n, h1, h2, h3, h4, h5, h6⟩ := z
  exact kconst_tup (PySem.W.mg_of X G h1) h2 h3 h4 h5 h6
/-- what a law promises -/
def spLaw (K : PySem.W.Frag) : Sp := fun vs H Q _ => ∃ (a : Addr) (ns : List Int), vs = [.ref a] ∧ SqL K H a (ns.map V.int) ∧ ns.length ≤ 63 ∧ ∀ H', Q (.bl true) H'
theorem rels_iV {K : PySem.W.Frag} {S : Sn} : ∀ ns : List Int, VRels K S (iV ns) (ns.map V.int)
  | [] => rfl
  | n :: ns => ⟨V.int n, ns.map V.int, rfl, rfl, rels_iV ns⟩
theorem fn_end {P : Program} {w : World} {K : PySem.W.Frag} {mg : Str → Option Value} {base : Heap} {k : Nat} {f : Addr} {fd : FuncData} {F : SF} (h : FnS P w K mg base (fun _ => 0) k f fd ["script"] F)
    (ht : ∀ ns : List Int, ns.length ≤ 63 → Ok (F [.kl (iV ns)] []) fun v _ => v = .bl true) : FnOk P w K mg base CX0 k f fd ["script"] (spLaw K) := FnOk.imp h fun vs H Q E ⟨a, ns, e, hs, hl, q⟩ => by
  subst e
  obtain ⟨v, h', e1, e2⟩ := ht ns hl
  have nal : ¬ Al (⟨[], [], H, []⟩ : Sn) a := fun z => by
    rcases z with z | ⟨i, c, z, _⟩
    · cases z
    · simp at z
  refine ⟨rfl, ⟨[], [], H, []⟩, [.kl (iV ns)], rfl, ⟨rfl, fun i j p ci cj h => (by simp at h), fun i c p h => (by simp at h), fun p h => (by cases h), fun i p c h => (by simp at h)⟩, ⟨.ref a, [], rfl, ⟨a, ns.map V.int, rfl, ?_, rels_iV ns⟩, rfl⟩, ?_⟩
  · rcases hs with hs | hs
    · exact .inl ⟨hs, nal⟩
    · exact .inr hs
  · show Post K _ W0 _ (F [.kl (iV ns)] []) _
    rw [e1, e2]
    intro S' _ _ _ w r
    cases r
    exact q _
end Lw

set_option Elab.async false
set_option linter.all false
set_option maxRecDepth 100000
set_option maxHeartbeats 4000000
namespace Lw
open PySem PySem.Spec L2 Sx
open PyProof.Rows hiding St
theorem all_mk {l : PySem.W.OpenLaw} {w : World} {K : PySem.W.Frag} {h : Heap} {mg : Str → Option Value} {fa : Addr} (X : K.In h) (G : h.Ns mainGlobals mg) (hfa : mg "law" = some (.ref fa))
    (d_law_stream : DefAt K "_law_stream" s_law_stream)
    (d_law_draw : DefAt K "_law_draw" s_law_draw)
    (d_law_pick : DefAt K "_law_pick" s_law_pick)
    (d_law_word : DefAt K "_law_word" s_law_word)
    (d_law_operators : DefAt K "_law_operators" s_law_operators)
    (d_law_instruction : DefAt K "_law_instruction" s_law_instruction)
    (d_law_code : DefAt K "_law_code" s_law_code)
    (d_law_launch : DefAt K "_law_launch" s_law_launch)
    (d_first_lane : DefAt K "first_lane" s_first_lane)
    (d_law_same : DefAt K "_law_same" s_law_same)
    (d_law_request : DefAt K "_law_request" s_law_request)
    (d_request : DefAt K "request" s_request)
    (d_law_wrapped : DefAt K "_law_wrapped" s_law_wrapped)
    (d_law_unary : DefAt K "_law_unary" s_law_unary)
    (d_law_bits : DefAt K "_law_bits" s_law_bits)
    (d_law_binary : DefAt K "_law_binary" s_law_binary)
    (d_law_done : DefAt K "_law_done" s_law_done)
    (d_law_behind : DefAt K "_law_behind" s_law_behind)
    (d_changed : DefAt K "changed" s_changed)
    (d_special : DefAt K "special" s_special)
    (d_wrapped : DefAt K "wrapped" s_wrapped)
    (d_unary : DefAt K "unary" s_unary)
    (d_divided : DefAt K "divided" s_divided)
    (d_arithmetic : DefAt K "arithmetic" s_arithmetic)
    (d_bits : DefAt K "bits" s_bits)
    (d_compared : DefAt K "compared" s_compared)
    (d_binary : DefAt K "binary" s_binary)
    (d_result : DefAt K "result" s_result)
    (d_behind : DefAt K "behind" s_behind)
    (d_law : DefAt K "law" s_law)
    (z_abs : PySem.W.nsIn K mainGlobals "abs" = some none)
    (z_all : PySem.W.nsIn K mainGlobals "all" = some none)
    (z_bool : PySem.W.nsIn K mainGlobals "bool" = some none)
    (z_int : PySem.W.nsIn K mainGlobals "int" = some none)
    (z_isinstance : PySem.W.nsIn K mainGlobals "isinstance" = some none)
    (z_len : PySem.W.nsIn K mainGlobals "len" = some none)
    (z_list : PySem.W.nsIn K mainGlobals "list" = some none)
    (z_max : PySem.W.nsIn K mainGlobals "max" = some none)
    (z_min : PySem.W.nsIn K mainGlobals "min" = some none)
    (z_range : PySem.W.nsIn K mainGlobals "range" = some none)
    (z_str : PySem.W.nsIn K mainGlobals "str" = some none)
    (z_tuple : PySem.W.nsIn K mainGlobals "tuple" = some none)
    (k_GREATEST : IntAt K "GREATEST" 2147483647)
    (k_MODULUS : IntAt K "MODULUS" 4294967296)
    (k_REGISTERS : IntAt K "REGISTERS" 8) :
    ∃ fd : FuncData, (∀ (s : Shared) (v : Value), BindsTo s fd ⟨[v], []⟩ [("script", v)]) ∧ ∀ base : Heap, K.In base → base.Ns mainGlobals mg → FnOk l.prog w K mg base CX0 6 fa fd ["script"] (spLaw K) := by
  have T : Txt K mg := ⟨PySem.W.mg_none_of X G z_abs, PySem.W.mg_none_of X G z_all, PySem.W.mg_none_of X G z_bool, PySem.W.mg_none_of X G z_int, PySem.W.mg_none_of X G z_isinstance, PySem.W.mg_none_of X G z_len, PySem.W.mg_none_of X G z_list, PySem.W.mg_none_of X G z_max, PySem.W.mg_none_of X G z_min, PySem.W.mg_none_of X G z_range, PySem.W.mg_none_of X G z_str, PySem.W.mg_none_of X G z_tuple, k_GREATEST.c X G, k_MODULUS.c X G, k_REGISTERS.c X G⟩
  obtain ⟨f_law_stream, fd_law_stream, a_law_stream, F_law_stream⟩ := d_law_stream
  have m_law_stream := PySem.W.mg_of X G a_law_stream
  have b_law_stream := F_law_stream.binds (ps := p_law_stream) fun _ _ _ _ _ _ us hl => match us, hl with | [_], _ => rfl
  obtain ⟨f_law_draw, fd_law_draw, a_law_draw, F_law_draw⟩ := d_law_draw
  have m_law_draw := PySem.W.mg_of X G a_law_draw
  have b_law_draw := F_law_draw.binds (ps := p_law_draw) fun _ _ _ _ _ _ us hl => match us, hl with | [_, _], _ => rfl
  obtain ⟨f_law_pick, fd_law_pick, a_law_pick, F_law_pick⟩ := d_law_pick
  have m_law_pick := PySem.W.mg_of X G a_law_pick
  have b_law_pick := F_law_pick.binds (ps := p_law_pick) fun _ _ _ _ _ _ us hl => match us, hl with | [_, _], _ => rfl
  obtain ⟨f_law_word, fd_law_word, a_law_word, F_law_word⟩ := d_law_word
  have m_law_word := PySem.W.mg_of X G a_law_word
  have b_law_word := F_law_word.binds (ps := p_law_word) fun _ _ _ _ _ _ us hl => match us, hl with | [_], _ => rfl
  obtain ⟨f_law_operators, fd_law_operators, a_law_operators, F_law_operators⟩ := d_law_operators
  have m_law_operators := PySem.W.mg_of X G a_law_operators
  have b_law_operators := F_law_operators.binds (ps := p_law_operators) fun _ _ _ _ _ _ us hl => match us, hl with | [_], _ => rfl
  obtain ⟨f_law_instruction, fd_law_instruction, a_law_instruction, F_law_instruction⟩ := d_law_instruction
  have m_law_instruction := PySem.W.mg_of X G a_law_instruction
  have b_law_instruction := F_law_instruction.binds (ps := p_law_instruction) fun _ _ _ _ _ _ us hl => match us, hl with | [_, _, _, _], _ => rfl
  obtain ⟨f_law_code, fd_law_code, a_law_code, F_law_code⟩ := d_law_code
  have m_law_code := PySem.W.mg_of X G a_law_code
  have b_law_code := F_law_code.binds (ps := p_law_code) fun _ _ _ _ _ _ us hl => match us, hl with | [_], _ => rfl
  obtain ⟨f_law_launch, fd_law_launch, a_law_launch, F_law_launch⟩ := d_law_launch
  have m_law_launch := PySem.W.mg_of X G a_law_launch
  have b_law_launch := F_law_launch.binds (ps := p_law_launch) fun _ _ _ _ _ _ us hl => match us, hl with | [_, _], _ => rfl
  obtain ⟨f_first_lane, fd_first_lane, a_first_lane, F_first_lane⟩ := d_first_lane
  have m_first_lane := PySem.W.mg_of X G a_first_lane
  have b_first_lane := F_first_lane.binds (ps := p_first_lane) fun _ _ _ _ _ _ us hl => match us, hl with | [_], _ => rfl
  obtain ⟨f_law_same, fd_law_same, a_law_same, F_law_same⟩ := d_law_same
  have m_law_same := PySem.W.mg_of X G a_law_same
  have b_law_same := F_law_same.binds (ps := p_law_same) fun _ _ _ _ _ _ us hl => match us, hl with | [_, _], _ => rfl
  obtain ⟨f_law_request, fd_law_request, a_law_request, F_law_request⟩ := d_law_request
  have m_law_request := PySem.W.mg_of X G a_law_request
  have b_law_request := F_law_request.binds (ps := p_law_request) fun _ _ _ _ _ _ us hl => match us, hl with | [_, _], _ => rfl
  obtain ⟨f_request, fd_request, a_request, F_request⟩ := d_request
  have m_request := PySem.W.mg_of X G a_request
  have b_request := F_request.binds (ps := p_request) fun _ _ _ _ _ _ us hl => match us, hl with | [_, _], _ => rfl
  obtain ⟨f_law_wrapped, fd_law_wrapped, a_law_wrapped, F_law_wrapped⟩ := d_law_wrapped
  have m_law_wrapped := PySem.W.mg_of X G a_law_wrapped
  have b_law_wrapped := F_law_wrapped.binds (ps := p_law_wrapped) fun _ _ _ _ _ _ us hl => match us, hl with | [_], _ => rfl
  obtain ⟨f_law_unary, fd_law_unary, a_law_unary, F_law_unary⟩ := d_law_unary
  have m_law_unary := PySem.W.mg_of X G a_law_unary
  have b_law_unary := F_law_unary.binds (ps := p_law_unary) fun _ _ _ _ _ _ us hl => match us, hl with | [_, _], _ => rfl
  obtain ⟨f_law_bits, fd_law_bits, a_law_bits, F_law_bits⟩ := d_law_bits
  have m_law_bits := PySem.W.mg_of X G a_law_bits
  have b_law_bits := F_law_bits.binds (ps := p_law_bits) fun _ _ _ _ _ _ us hl => match us, hl with | [_, _, _], _ => rfl
  obtain ⟨f_law_binary, fd_law_binary, a_law_binary, F_law_binary⟩ := d_law_binary
  have m_law_binary := PySem.W.mg_of X G a_law_binary
  have b_law_binary := F_law_binary.binds (ps := p_law_binary) fun _ _ _ _ _ _ us hl => match us, hl with | [_, _, _], _ => rfl
  obtain ⟨f_law_done, fd_law_done, a_law_done, F_law_done⟩ := d_law_done
  have m_law_done := PySem.W.mg_of X G a_law_done
  have b_law_done := F_law_done.binds (ps := p_law_done) fun _ _ _ _ _ _ us hl => match us, hl with | [_, _, _], _ => rfl
  obtain ⟨f_law_behind, fd_law_behind, a_law_behind, F_law_behind⟩ := d_law_behind
  have m_law_behind := PySem.W.mg_of X G a_law_behind
  have b_law_behind := F_law_behind.binds (ps := p_law_behind) fun _ _ _ _ _ _ us hl => match us, hl with | [_, _, _, _, _], _ => rfl
  obtain ⟨f_changed, fd_changed, a_changed, F_changed⟩ := d_changed
  have m_changed := PySem.W.mg_of X G a_changed
  have b_changed := F_changed.binds (ps := p_changed) fun _ _ _ _ _ _ us hl => match us, hl with | [_, _, _], _ => rfl
  obtain ⟨f_special, fd_special, a_special, F_special⟩ := d_special
  have m_special := PySem.W.mg_of X G a_special
  have b_special := F_special.binds (ps := p_special) fun _ _ _ _ _ _ us hl => match us, hl with | [_, _, _], _ => rfl
  obtain ⟨f_wrapped, fd_wrapped, a_wrapped, F_wrapped⟩ := d_wrapped
  have m_wrapped := PySem.W.mg_of X G a_wrapped
  have b_wrapped := F_wrapped.binds (ps := p_wrapped) fun _ _ _ _ _ _ us hl => match us, hl with | [_], _ => rfl
  obtain ⟨f_unary, fd_unary, a_unary, F_unary⟩ := d_unary
  have m_unary := PySem.W.mg_of X G a_unary
  have b_unary := F_unary.binds (ps := p_unary) fun _ _ _ _ _ _ us hl => match us, hl with | [_, _], _ => rfl
  obtain ⟨f_divided, fd_divided, a_divided, F_divided⟩ := d_divided
  have m_divided := PySem.W.mg_of X G a_divided
  have b_divided := F_divided.binds (ps := p_divided) fun _ _ _ _ _ _ us hl => match us, hl with | [_, _], _ => rfl
  obtain ⟨f_arithmetic, fd_arithmetic, a_arithmetic, F_arithmetic⟩ := d_arithmetic
  have m_arithmetic := PySem.W.mg_of X G a_arithmetic
  have b_arithmetic := F_arithmetic.binds (ps := p_arithmetic) fun _ _ _ _ _ _ us hl => match us, hl with | [_, _, _], _ => rfl
  obtain ⟨f_bits, fd_bits, a_bits, F_bits⟩ := d_bits
  have m_bits := PySem.W.mg_of X G a_bits
  have b_bits := F_bits.binds (ps := p_bits) fun _ _ _ _ _ _ us hl => match us, hl with | [_, _, _], _ => rfl
  obtain ⟨f_compared, fd_compared, a_compared, F_compared⟩ := d_compared
  have m_compared := PySem.W.mg_of X G a_compared
  have b_compared := F_compared.binds (ps := p_compared) fun _ _ _ _ _ _ us hl => match us, hl with | [_, _, _], _ => rfl
  obtain ⟨f_binary, fd_binary, a_binary, F_binary⟩ := d_binary
  have m_binary := PySem.W.mg_of X G a_binary
  have b_binary := F_binary.binds (ps := p_binary) fun _ _ _ _ _ _ us hl => match us, hl with | [_, _, _], _ => rfl
  obtain ⟨f_result, fd_result, a_result, F_result⟩ := d_result
  have m_result := PySem.W.mg_of X G a_result
  have b_result := F_result.binds (ps := p_result) fun _ _ _ _ _ _ us hl => match us, hl with | [_, _, _, _, _], _ => rfl
  obtain ⟨f_behind, fd_behind, a_behind, F_behind⟩ := d_behind
  have m_behind := PySem.W.mg_of X G a_behind
  have b_behind := F_behind.binds (ps := p_behind) fun _ _ _ _ _ _ us hl => match us, hl with | [_, _, _, _, _], _ => rfl
  obtain ⟨f_law, fd_law, a_law, F_law⟩ := d_law
  have m_law := PySem.W.mg_of X G a_law
  have b_law := F_law.binds (ps := p_law) fun _ _ _ _ _ _ us hl => match us, hl with | [_], _ => rfl
  cases hfa.symm.trans m_law
  obtain ⟨oc, od, kV, doc, pm, an, cdv, ct, osl, e, lk, hcd⟩ := F_law.ex
  refine ⟨fd_law, fun s v => by subst e; exact .of_eq rfl, fun base hb hg => ?_⟩
  have g_law_stream : Cal l.prog w K mg base (fun _ => 0) 1 "_law_stream" 1 G_law_stream := (cal_mk F_law_stream m_law_stream b_law_stream (fn_law_stream F_law_stream T )).le le_law_stream
  have g_law_draw : Cal l.prog w K mg base (fun _ => 0) 1 "_law_draw" 2 G_law_draw := (cal_mk F_law_draw m_law_draw b_law_draw (fn_law_draw F_law_draw T )).le le_law_draw
  have g_law_pick : Cal l.prog w K mg base (fun _ => 0) 2 "_law_pick" 2 G_law_pick := (cal_mk F_law_pick m_law_pick b_law_pick (fn_law_pick F_law_pick T g_law_draw)).le le_law_pick
  have g_law_word : Cal l.prog w K mg base (fun _ => 0) 3 "_law_word" 1 G_law_word := (cal_mk F_law_word m_law_word b_law_word (fn_law_word F_law_word T g_law_pick g_law_draw)).le le_law_word
  have g_law_operators : Cal l.prog w K mg base (fun _ => 0) 1 "_law_operators" 1 G_law_operators := (cal_mk F_law_operators m_law_operators b_law_operators (fn_law_operators F_law_operators T )).trunc.le le_law_operators
  have g_law_instruction : Cal l.prog w K mg base (fun _ => 0) 4 "_law_instruction" 4 G_law_instruction := (cal_mk F_law_instruction m_law_instruction b_law_instruction (fn_law_instruction F_law_instruction T g_law_draw g_law_pick g_law_word g_law_operators)).le le_law_instruction
  have g_law_code : Cal l.prog w K mg base (fun _ => 0) 5 "_law_code" 1 G_law_code := (cal_mk F_law_code m_law_code b_law_code (fn_law_code F_law_code T g_law_pick g_law_draw g_law_instruction)).le le_law_code
  have g_law_launch : Cal l.prog w K mg base (fun _ => 0) 4 "_law_launch" 2 G_law_launch := (cal_mk F_law_launch m_law_launch b_law_launch (fn_law_launch F_law_launch T g_law_draw g_law_word g_law_pick)).le le_law_launch
  have g_first_lane : Cal l.prog w K mg base (fun _ => 0) 1 "first_lane" 1 G_first_lane := (cal_mk F_first_lane m_first_lane b_first_lane (fn_first_lane F_first_lane T )).trunc.le le_first_lane
  have g0_law_same : Cal l.prog w K mg base (fun _ => 0) 0 "_law_same" 2 (fun _ _ => .bad) := cal_bad m_law_same F_law_same.kp b_law_same
  have h0_law_same : Cal l.prog w K mg base (fun _ => 0) 1 "_law_same" 2 (GD_law_same 0) := (cal_mk F_law_same m_law_same b_law_same (fn_law_same F_law_same T  g0_law_same (by decide))).le (le_law_same_0 _)
  have h1_law_same : Cal l.prog w K mg base (fun _ => 0) 2 "_law_same" 2 (GD_law_same 1) := (cal_mk F_law_same m_law_same b_law_same (fn_law_same F_law_same T  h0_law_same (by decide))).le (le_law_same_s 0)
  have h2_law_same : Cal l.prog w K mg base (fun _ => 0) 3 "_law_same" 2 (GD_law_same 2) := (cal_mk F_law_same m_law_same b_law_same (fn_law_same F_law_same T  h1_law_same (by decide))).le (le_law_same_s 1)
  have h3_law_same : Cal l.prog w K mg base (fun _ => 0) 4 "_law_same" 2 (GD_law_same 3) := (cal_mk F_law_same m_law_same b_law_same (fn_law_same F_law_same T  h2_law_same (by decide))).le (le_law_same_s 2)
  have g_law_same : Cal l.prog w K mg base (fun _ => 0) 4 "_law_same" 2 G_law_same := h3_law_same
  have g_law_request : Cal l.prog w K mg base (fun _ => 0) 1 "_law_request" 2 G_law_request := (cal_mk F_law_request m_law_request b_law_request (fn_law_request F_law_request T )).trunc.le le_law_request
  have g_request : Cal l.prog w K mg base (fun _ => 0) 1 "request" 2 G_request := (cal_mk F_request m_request b_request (fn_request F_request T )).trunc.le le_request
  have g_law_wrapped : Cal l.prog w K mg base (fun _ => 0) 1 "_law_wrapped" 1 G_law_wrapped := (cal_mk F_law_wrapped m_law_wrapped b_law_wrapped (fn_law_wrapped F_law_wrapped T )).le le_law_wrapped
  have g_law_unary : Cal l.prog w K mg base (fun _ => 0) 2 "_law_unary" 2 G_law_unary := (cal_mk F_law_unary m_law_unary b_law_unary (fn_law_unary F_law_unary T g_law_wrapped)).le le_law_unary
  have g_law_bits : Cal l.prog w K mg base (fun _ => 0) 2 "_law_bits" 3 G_law_bits := (cal_mk F_law_bits m_law_bits b_law_bits (fn_law_bits F_law_bits T g_law_wrapped)).le le_law_bits
  have g_law_binary : Cal l.prog w K mg base (fun _ => 0) 3 "_law_binary" 3 G_law_binary := (cal_mk F_law_binary m_law_binary b_law_binary (fn_law_binary F_law_binary T g_law_wrapped g_law_bits)).le le_law_binary
  have g_law_done : Cal l.prog w K mg base (fun _ => 0) 4 "_law_done" 3 G_law_done := (cal_mk F_law_done m_law_done b_law_done (fn_law_done F_law_done T g_law_unary g_law_binary)).le le_law_done
  have g_law_behind : Cal l.prog w K mg base (fun _ => 0) 5 "_law_behind" 5 G_law_behind := (cal_mk F_law_behind m_law_behind b_law_behind (fn_law_behind F_law_behind T g_law_done)).trunc.le le_law_behind
  have g_changed : Cal l.prog w K mg base (fun _ => 0) 1 "changed" 3 G_changed := (cal_mk F_changed m_changed b_changed (fn_changed F_changed T )).trunc.le le_changed
  have g_special : Cal l.prog w K mg base (fun _ => 0) 1 "special" 3 G_special := (cal_mk F_special m_special b_special (fn_special F_special T )).trunc.le le_special
  have g_wrapped : Cal l.prog w K mg base (fun _ => 0) 1 "wrapped" 1 G_wrapped := (cal_mk F_wrapped m_wrapped b_wrapped (fn_wrapped F_wrapped T )).le le_wrapped
  have g_unary : Cal l.prog w K mg base (fun _ => 0) 2 "unary" 2 G_unary := (cal_mk F_unary m_unary b_unary (fn_unary F_unary T g_wrapped)).le le_unary
  have g_divided : Cal l.prog w K mg base (fun _ => 0) 1 "divided" 2 G_divided := (cal_mk F_divided m_divided b_divided (fn_divided F_divided T )).le le_divided
  have g_arithmetic : Cal l.prog w K mg base (fun _ => 0) 2 "arithmetic" 3 G_arithmetic := (cal_mk F_arithmetic m_arithmetic b_arithmetic (fn_arithmetic F_arithmetic T g_divided)).le le_arithmetic
  have g_bits : Cal l.prog w K mg base (fun _ => 0) 1 "bits" 3 G_bits := (cal_mk F_bits m_bits b_bits (fn_bits F_bits T )).le le_bits
  have g_compared : Cal l.prog w K mg base (fun _ => 0) 1 "compared" 3 G_compared := (cal_mk F_compared m_compared b_compared (fn_compared F_compared T )).le le_compared
  have g_binary : Cal l.prog w K mg base (fun _ => 0) 3 "binary" 3 G_binary := (cal_mk F_binary m_binary b_binary (fn_binary F_binary T g_arithmetic g_bits g_compared g_wrapped)).le le_binary
  have g_result : Cal l.prog w K mg base (fun _ => 0) 4 "result" 5 G_result := (cal_mk F_result m_result b_result (fn_result F_result T g_special g_unary g_binary)).trunc.le le_result
  have g_behind : Cal l.prog w K mg base (fun _ => 0) 5 "behind" 5 G_behind := (cal_mk F_behind m_behind b_behind (fn_behind F_behind T g_changed g_result)).trunc.le le_behind
  exact fn_end (fn_law F_law T g_law_stream g_law_code g_law_launch g_law_draw g_first_lane g_law_same g_law_request g_request g_law_word g_law_behind g_behind) fun ns hl => law_true hl []
end Lw
open PySem PySem.W PyProof.Rows in
set_option maxRecDepth 100000 in
set_option maxHeartbeats 0 in
theorem PySem.Challenge.cw_drawever_k15_whole_lanes_holds : PySem.Challenge.rw_drawever_k15_whole_lanes.Holds := by
  w_on; o_law; k_head; (case hw => w_witness2)
  k_fill
  refine L2.walk_of (l := PySem.Challenge.rw_drawever_k15_whole_lanes) (n := 63) (k := 6) (x := "script") (CX := fun _ => L2.CX0) (sp := fun w => Lw.spLaw _) rfl (by decide) rfl ⟨rfl, by decide, by decide⟩ (fun w h Y => PySem.W.kIn_of Y) ?F (fun _ _ a ns hl _ hS => ⟨a, ns, rfl, hS, hl, fun _ => rfl⟩) fun _ _ _ _ _ z => z
  case F =>
    intro w mg fa h KX G hmg
    refine' Lw.all_mk KX G hmg ?d_law_stream ?d_law_draw ?d_law_pick ?d_law_word ?d_law_operators ?d_law_instruction ?d_law_code ?d_law_launch ?d_first_lane ?d_law_same ?d_law_request ?d_request ?d_law_wrapped ?d_law_unary ?d_law_bits ?d_law_binary ?d_law_done ?d_law_behind ?d_changed ?d_special ?d_wrapped ?d_unary ?d_divided ?d_arithmetic ?d_bits ?d_compared ?d_binary ?d_result ?d_behind ?d_law ?z_abs ?z_all ?z_bool ?z_int ?z_isinstance ?z_len ?z_list ?z_max ?z_min ?z_range ?z_str ?z_tuple ?k_GREATEST ?k_MODULUS ?k_REGISTERS
    case d_law_stream =>
      refine' Lw.dmk ?a ?l ?c ?k
      (case a => k_is)
      (case l => k_is)
      (case c => k_is)
      (case k => k_is)
    case d_law_draw =>
      refine' Lw.dmk ?a ?l ?c ?k
      (case a => k_is)
      (case l => k_is)
      (case c => k_is)
      (case k => k_is)
    case d_law_pick =>
      refine' Lw.dmk ?a ?l ?c ?k
      (case a => k_is)
      (case l => k_is)
      (case c => k_is)
      (case k => k_is)
    case d_law_word =>
      refine' Lw.dmk ?a ?l ?c ?k
      (case a => k_is)
      (case l => k_is)
      (case c => k_is)
      (case k => k_is)
    case d_law_operators =>
      refine' Lw.dmk ?a ?l ?c ?k
      (case a => k_is)
      (case l => k_is)
      (case c => k_is)
      (case k => k_is)
    case d_law_instruction =>
      refine' Lw.dmk ?a ?l ?c ?k
      (case a => k_is)
      (case l => k_is)
      (case c => k_is)
      (case k => k_is)
    case d_law_code =>
      refine' Lw.dmk ?a ?l ?c ?k
      (case a => k_is)
      (case l => k_is)
      (case c => k_is)
      (case k => k_is)
    case d_law_launch =>
      refine' Lw.dmk ?a ?l ?c ?k
      (case a => k_is)
      (case l => k_is)
      (case c => k_is)
      (case k => k_is)
    case d_first_lane =>
      refine' Lw.dmk ?a ?l ?c ?k
      (case a => k_is)
      (case l => k_is)
      (case c => k_is)
      (case k => k_is)
    case d_law_same =>
      refine' Lw.dmk ?a ?l ?c ?k
      (case a => k_is)
      (case l => k_is)
      (case c => k_is)
      (case k => k_is)
    case d_law_request =>
      refine' Lw.dmk ?a ?l ?c ?k
      (case a => k_is)
      (case l => k_is)
      (case c => k_is)
      (case k => k_is)
    case d_request =>
      refine' Lw.dmk ?a ?l ?c ?k
      (case a => k_is)
      (case l => k_is)
      (case c => k_is)
      (case k => k_is)
    case d_law_wrapped =>
      refine' Lw.dmk ?a ?l ?c ?k
      (case a => k_is)
      (case l => k_is)
      (case c => k_is)
      (case k => k_is)
    case d_law_unary =>
      refine' Lw.dmk ?a ?l ?c ?k
      (case a => k_is)
      (case l => k_is)
      (case c => k_is)
      (case k => k_is)
    case d_law_bits =>
      refine' Lw.dmk ?a ?l ?c ?k
      (case a => k_is)
      (case l => k_is)
      (case c => k_is)
      (case k => k_is)
    case d_law_binary =>
      refine' Lw.dmk ?a ?l ?c ?k
      (case a => k_is)
      (case l => k_is)
      (case c => k_is)
      (case k => k_is)
    case d_law_done =>
      refine' Lw.dmk ?a ?l ?c ?k
      (case a => k_is)
      (case l => k_is)
      (case c => k_is)
      (case k => k_is)
    case d_law_behind =>
      refine' Lw.dmk ?a ?l ?c ?k
      (case a => k_is)
      (case l => k_is)
      (case c => k_is)
      (case k => k_is)
    case d_changed =>
      refine' Lw.dmk ?a ?l ?c ?k
      (case a => k_is)
      (case l => k_is)
      (case c => k_is)
      (case k => k_is)
    case d_special =>
      refine' Lw.dmk ?a ?l ?c ?k
      (case a => k_is)
      (case l => k_is)
      (case c => k_is)
      (case k => k_is)
    case d_wrapped =>
      refine' Lw.dmk ?a ?l ?c ?k
      (case a => k_is)
      (case l => k_is)
      (case c => k_is)
      (case k => k_is)
    case d_unary =>
      refine' Lw.dmk ?a ?l ?c ?k
      (case a => k_is)
      (case l => k_is)
      (case c => k_is)
      (case k => k_is)
    case d_divided =>
      refine' Lw.dmk ?a ?l ?c ?k
      (case a => k_is)
      (case l => k_is)
      (case c => k_is)
      (case k => k_is)
    case d_arithmetic =>
      refine' Lw.dmk ?a ?l ?c ?k
      (case a => k_is)
      (case l => k_is)
      (case c => k_is)
      (case k => k_is)
    case d_bits =>
      refine' Lw.dmk ?a ?l ?c ?k
      (case a => k_is)
      (case l => k_is)
      (case c => k_is)
      (case k => k_is)
    case d_compared =>
      refine' Lw.dmk ?a ?l ?c ?k
      (case a => k_is)
      (case l => k_is)
      (case c => k_is)
      (case k => k_is)
    case d_binary =>
      refine' Lw.dmk ?a ?l ?c ?k
      (case a => k_is)
      (case l => k_is)
      (case c => k_is)
      (case k => k_is)
    case d_result =>
      refine' Lw.dmk ?a ?l ?c ?k
      (case a => k_is)
      (case l => k_is)
      (case c => k_is)
      (case k => k_is)
    case d_behind =>
      refine' Lw.dmk ?a ?l ?c ?k
      (case a => k_is)
      (case l => k_is)
      (case c => k_is)
      (case k => k_is)
    case d_law =>
      refine' Lw.dmk ?a ?l ?c ?k
      (case a => k_is)
      (case l => k_is)
      (case c => k_is)
      (case k => k_is)
    (case z_abs => k_is)
    (case z_all => k_is)
    (case z_bool => k_is)
    (case z_int => k_is)
    (case z_isinstance => k_is)
    (case z_len => k_is)
    (case z_list => k_is)
    (case z_max => k_is)
    (case z_min => k_is)
    (case z_range => k_is)
    (case z_str => k_is)
    (case z_tuple => k_is)
    case k_GREATEST =>
      refine' Lw.imk ?a
      (case a => k_is)
    case k_MODULUS =>
      refine' Lw.imk ?a
      (case a => k_is)
    case k_REGISTERS =>
      refine' Lw.imk ?a
      (case a => k_is)

