import PyProof.Rows.All
import Wide.All
import OpenK.AllK
import Wide.FinOn
import HandS.ForMost
import HandS.ForExc
import HandS.Lambda
import HandS.EndTab
import HandS.Wide
import HandS.TupAny
import HandS.TupMul
import HandS.Style
import HandS.IsInst
import HandS.Deep
import HandS.CallSlots
import HandS.More
import HandS.TryMany
import HandS.ExcField
import HandS.ExcInit
import KE.GoesMore
import HandS.Conv
import KE.KExcSuper
import HandS.Nested
import PySem.Challenge.RW_campsapart_k01_sizes_and_pages_of_anythi
set_option Elab.async false
set_option linter.all false
set_option maxRecDepth 100000
namespace DL
open PySem PySem.Spec PyProof.Rows L2 LamX

/-- plain data -/
inductive D where
  | non | bl (b : Bool) | int (i : Int) | str (s : Str)
  | tup (ds : List D) | lst (ds : List D) | dct (ks : List Key) (ds : List D)
  /-- a list that is known to be read alone (the script) -/
  | rol (ds : List D)

/-- the data at a changing object -/
inductive OC where
  | lst (ds : List D) | dct (ks : List Key) (ds : List D)
@[reducible] def OC.d : OC → D
  | .lst ds => .lst ds
  | .dct ks ds => .dct ks ds

/-- what a name holds -/
inductive Sl where
  | no | fz (d : D) | own (o : OC) | bor (o : OC)
def Sl.isOwn : Sl → Bool
  | .own _ => true
  | .bor _ => true
  | _ => false
abbrev En := List Sl
def slot : En → Nat → Sl
  | [], _ => .no
  | s :: _, 0 => s
  | _ :: r, n + 1 => slot r n

/-- a result: data, an object of one's own, a name's object -/
inductive Rv where
  | fz (d : D) | own (o : OC) | at (i : Nat)

section
variable (K : PySem.W.Frag) (Φ : Hp)
mutual
def R : D → V → Prop
  | .non, v => v = .non
  | .bl b, v => v = .bl b
  | .int i, v => v = .int i
  | .str s, v => v = .str s
  | .tup ds, v => ∃ a vs, v = .ref a ∧ SqT K Φ a vs ∧ Rs ds vs
  | .lst ds, v => ∃ a vs, v = .ref a ∧ Φ a = some (.lst vs) ∧ Rs ds vs
  | .rol ds, v => ∃ a vs, v = .ref a ∧ SqL K Φ a vs ∧ Rs ds vs
  | .dct ks ds, v => ∃ a ws, v = .ref a ∧ Φ a = some (.dK ws) ∧ ws.map (·.1) = ks ∧ Rs ds (ws.map (·.2))
def Rs : List D → List V → Prop
  | [], vs => vs = []
  | d :: ds, vs => ∃ v r, vs = v :: r ∧ R d v ∧ Rs ds r
end
end
section
variable {K : PySem.W.Frag} {Φ Φ' : Hp}
theorem sqL_mono {a : Addr} {vs : List V} (h : Same Φ Φ') (s : SqL K Φ a vs) : SqL K Φ' a vs := h.seq s
theorem sqT_mono {a : Addr} {vs : List V} (h : Same Φ Φ') (s : SqT K Φ a vs) : SqT K Φ' a vs := by
  rcases s with (s | ⟨o, s⟩) | s
  · exact .inl (.inl (h _ _ s))
  · exact .inl (.inr ⟨o, h _ _ s⟩)
  · exact .inr s
mutual
theorem R.mono (h : Same Φ Φ') : ∀ {d : D} {v : V}, R K Φ d v → R K Φ' d v
  | .non, _, r => by simp only [R] at r ⊢; exact r
  | .bl _, _, r => by simp only [R] at r ⊢; exact r
  | .int _, _, r => by simp only [R] at r ⊢; exact r
  | .str _, _, r => by simp only [R] at r ⊢; exact r
  | .tup ds, _, r => by
    simp only [R] at r ⊢
    obtain ⟨a, vs, e, s, q⟩ := r
    exact ⟨a, vs, e, sqT_mono h s, Rs.mono h q⟩
  | .lst ds, _, r => by
    simp only [R] at r ⊢
    obtain ⟨a, vs, e, s, q⟩ := r
    exact ⟨a, vs, e, h _ _ s, Rs.mono h q⟩
  | .rol ds, _, r => by
    simp only [R] at r ⊢
    obtain ⟨a, vs, e, s, q⟩ := r
    exact ⟨a, vs, e, sqL_mono h s, Rs.mono h q⟩
  | .dct ks ds, _, r => by
    simp only [R] at r ⊢
    obtain ⟨a, ws, e, s, k, q⟩ := r
    exact ⟨a, ws, e, h _ _ s, k, Rs.mono h q⟩
theorem Rs.mono (h : Same Φ Φ') : ∀ {ds : List D} {vs : List V}, Rs K Φ ds vs → Rs K Φ' ds vs
  | [], _, r => by simp only [Rs] at r ⊢; exact r
  | d :: ds, _, r => by
    simp only [Rs] at r ⊢
    obtain ⟨v, rr, e, h1, h2⟩ := r
    exact ⟨v, rr, e, R.mono h h1, Rs.mono h h2⟩
end
end

section
variable (K : PySem.W.Frag) (H Φ : Hp)
/-- the changing object at a holds o; its parts are data that stand still -/
def OcR : OC → Addr → Prop
  | .lst ds, a => Φ a = none ∧ ∃ vs, H a = some (.lst vs) ∧ Rs K Φ ds vs
  | .dct ks ds, a => Φ a = none ∧ ∃ ws, H a = some (.dK ws) ∧ ws.map (·.1) = ks ∧ Rs K Φ ds (ws.map (·.2))
def SlR : Sl → Option V → Prop
  | .no, _ => True
  | .fz d, s => ∃ v, s = some v ∧ R K Φ d v
  | .own o, s => ∃ a, s = some (.ref a) ∧ OcR K H Φ o a
  | .bor o, s => ∃ a, s = some (.ref a) ∧ OcR K H Φ o a
end

/-- the ground of a body: the lambdas' tables, the heap and the still part at the entry, the borrowed parameters' objects, the wishes about exceptions -/
structure Bs where
  T : List (Addr × Str)
  H : Hp
  Φ : Hp
  args : List (Option Addr)
  CL : Nat → Option Addr
  E : XK
  ED : Nat → D → Prop

structure Ext (K : PySem.W.Frag) (b : Bs) (H Φ : Hp) : Prop where
  held : Same Φ H
  nt : ∀ a ps, Φ a ≠ some (.tbl ps)
  grow : Same b.Φ Φ
  kept : ∀ a o, b.H a = some o → some a ∉ b.args → (∀ ps, o ≠ .tbl ps) → H a = some o
  still : ∀ a, H a = none → b.H a = none
  frz0 : ∀ a, Φ a ≠ none → b.Φ a = none → b.H a = none
  tabs : Tabs b.T H

/-- an exception in the air: its class, what it keeps -/
def HE (K : PySem.W.Frag) (b : Bs) : Prop := ∀ n C what a v Φ' H', b.CL n = some C → Ext K b H' Φ' → H' a = some (.xd [(("what" : Str), v)]) → R K Φ' what v → b.ED n what → b.E (.ref C) (some a) H'

structure Rep (K : PySem.W.Frag) (b : Bs) (σ : L2.St) (H Φ : Hp) (η : En) : Prop extends Ext K b H Φ where
  len : σ.length = η.length
  sl : ∀ i, SlR K H Φ (slot η i) (σ[i]?.join)
  sep : ∀ i j a, (slot η i).isOwn = true → (slot η j).isOwn = true → σ[i]? = some (some (.ref a)) → σ[j]? = some (some (.ref a)) → i = j
  ownF : ∀ i a o, slot η i = .own o → σ[i]? = some (some (.ref a)) → b.H a = none
  bor1 : ∀ i a, b.args[i]? = some (some a) → (∃ o, slot η i = .bor o) ∧ σ[i]? = some (some (.ref a))
  bor2 : ∀ i o, slot η i = .bor o → ∃ a, b.args[i]? = some (some a)
  he : HE K b

def Ow (σ : L2.St) (η : En) (a : Addr) : Prop := ∃ i, (slot η i).isOwn = true ∧ σ[i]? = some (some (.ref a))

structure Stp (σ : L2.St) (H Φ : Hp) (η : En) (H' Φ' : Hp) (η' : En) : Prop where
  le : Same Φ Φ'
  keep : ∀ a o, H a = some o → ¬ Ow σ η a → (∀ ps, o ≠ .tbl ps) → H' a = some o
  nof : ∀ a, H a ≠ none → Φ a = none → ¬ Ow σ η a → Φ' a = none
  sub : ∀ i, (slot η' i).isOwn = true → (slot η i).isOwn = true
  nn : ∀ i, slot η' i = .no → slot η i = .no
  ln : η'.length = η.length
  trk : ∀ a, H a ≠ none → H' a ≠ none

section
variable (K : PySem.W.Frag) (σ : L2.St) (H0 H Φ : Hp) (η : En)
/-- H0: the heap ahead of the expression, in which its own new object is not yet -/
def RvR : Rv → V → Prop
  | .fz d, v => R K Φ d v
  | .own o, v => ∃ a, v = .ref a ∧ OcR K H Φ o a ∧ H0 a = none ∧ ¬ Ow σ η a
  | .at i, v => σ[i]? = some (some v) ∧ slot η i ≠ .no
/-- what is read of a value: data that stands still, or an object as it is now -/
def RdR (d : D) (v : V) : Prop := R K Φ d v ∨ ∃ o a, d = OC.d o ∧ v = .ref a ∧ OcR K H Φ o a
end

theorem slot_set_same {η : En} {i : Nat} {s : Sl} (h : i < η.length) : slot (η.set i s) i = s := by
  induction η generalizing i with
  | nil => simp at h
  | cons x r ih =>
    cases i with
    | zero => rfl
    | succ n => exact ih (by simpa using h)
theorem slot_set_ne {η : En} {i j : Nat} {s : Sl} (h : j ≠ i) : slot (η.set i s) j = slot η j := by
  induction η generalizing i j with
  | nil => rfl
  | cons x r ih =>
    cases i with
    | zero => cases j with
      | zero => exact absurd rfl h
      | succ n => rfl
    | succ n => cases j with
      | zero => rfl
      | succ m => exact ih (fun z => h (by rw [z]))
theorem slot_lt {η : En} {i : Nat} (h : slot η i ≠ .no) : i < η.length := by
  induction η generalizing i with
  | nil => exact absurd rfl h
  | cons x r ih =>
    cases i with
    | zero => simp
    | succ n => have := ih (i := n) h; simp; omega
theorem slot_out {η : En} {i : Nat} (h : η.length ≤ i) : slot η i = .no := by
  by_cases q : slot η i = .no
  · exact q
  · have := slot_lt q; omega
theorem join_some {σ : L2.St} {i : Nat} {v : V} (h : σ[i]?.join = some v) : σ[i]? = some (some v) := by
  cases e : σ[i]? with
  | none => rw [e] at h; cases h
  | some o => rw [e] at h; simp at h; rw [h]
theorem some_join {σ : L2.St} {i : Nat} {v : V} (h : σ[i]? = some (some v)) : σ[i]?.join = some v := by rw [h]; rfl

section
variable {K : PySem.W.Frag} {b : Bs} {σ : L2.St} {H Φ H' Φ' H'' Φ'' : Hp} {η η' η'' : En} {a : Addr} {o : OC} {d : D} {r : Rv} {v : V}

theorem OcR.nf (h : OcR K H Φ o a) : Φ a = none := by cases o <;> exact h.1
theorem OcR.there (h : OcR K H Φ o a) : ∃ u, H a = some u ∧ ∀ ps, u ≠ .tbl ps := by
  cases o with
  | lst ds => obtain ⟨_, vs, e, _⟩ := h; exact ⟨_, e, fun ps z => by cases z⟩
  | dct ks ds => obtain ⟨_, ws, e, _⟩ := h; exact ⟨_, e, fun ps z => by cases z⟩
theorem OcR.step (h : OcR K H Φ o a) (le : Same Φ Φ') (k : ∀ u, H a = some u → (∀ ps, u ≠ .tbl ps) → H' a = some u) (n : Φ' a = none) : OcR K H' Φ' o a := by
  cases o with
  | lst ds => obtain ⟨_, vs, e, q⟩ := h; exact ⟨n, vs, k _ e (fun ps z => by cases z), q.mono le⟩
  | dct ks ds => obtain ⟨_, ws, e, q1, q⟩ := h; exact ⟨n, ws, k _ e (fun ps z => by cases z), q1, q.mono le⟩
/-- the object as it is, as data over the ground in which it stands -/
theorem OcR.toR (h : OcR K H Φ o a) (le : Same Φ Φ') (e : Φ' a = H a) : R K Φ' o.d (.ref a) := by
  cases o with
  | lst ds =>
    obtain ⟨_, vs, e1, q⟩ := h
    exact ⟨a, vs, rfl, e.trans e1, q.mono le⟩
  | dct ks ds =>
    obtain ⟨_, ws, e1, k, q⟩ := h
    exact ⟨a, ws, rfl, e.trans e1, k, q.mono le⟩

theorem Stp.refl : Stp σ H Φ η H Φ η := ⟨fun _ _ h => h, fun _ _ h _ _ => h, fun _ _ h _ => h, fun _ h => h, fun _ h => h, rfl, fun _ h => h⟩
theorem Stp.trans (x : Stp σ H Φ η H' Φ' η') (y : Stp σ H' Φ' η' H'' Φ'' η'') : Stp σ H Φ η H'' Φ'' η'' := by
  have nw : ∀ a, ¬ Ow σ η a → ¬ Ow σ η' a := fun a n ⟨i, h1, h2⟩ => n ⟨i, x.sub i h1, h2⟩
  exact ⟨x.le.trans y.le, fun a o h n t => y.keep a o (x.keep a o h n t) (nw a n) t, fun a h f n => y.nof a (x.trk a h) (x.nof a h f n) (nw a n), fun i h => x.sub i (y.sub i h), fun i h => x.nn i (y.nn i h), y.ln.trans x.ln, fun a h => y.trk a (x.trk a h)⟩
theorem Stp.rv {H0 : Hp} (x : Stp σ H Φ η H' Φ' η') (h : RvR K σ H0 H Φ η r v) : RvR K σ H0 H' Φ' η' r v := by
  cases r with
  | fz d => exact R.mono x.le h
  | own o =>
    obtain ⟨a, e, c, f, n⟩ := h
    obtain ⟨u, hu, _⟩ := c.there
    refine ⟨a, e, c.step x.le (fun u e t => x.keep a u e n t) (x.nof a (by rw [hu]; simp) c.nf n), f, fun ⟨i, h1, h2⟩ => n ⟨i, x.sub i h1, h2⟩⟩
  | «at» i => exact ⟨h.1, fun z => h.2 (x.nn i z)⟩
theorem RvR.back {H0 H1 : Hp} (h : RvR K σ H1 H Φ η r v) (k : ∀ a, H0 a ≠ none → H1 a ≠ none) : RvR K σ H0 H Φ η r v := by
  cases r with
  | fz d => exact h
  | own o =>
    obtain ⟨a, e, c, f, n⟩ := h
    refine ⟨a, e, c, ?_, n⟩
    cases q : H0 a with
    | none => rfl
    | some u => exact absurd f (k a (by rw [q]; simp))
  | «at» i => exact h
end
end DL

set_option Elab.async false
set_option linter.all false
set_option maxRecDepth 100000
namespace DL
open PySem PySem.Spec PyProof.Rows L2 LamX
section
variable {K : PySem.W.Frag} {b : Bs} {σ : L2.St} {H Φ H' Φ' H'' Φ'' : Hp} {η η' η'' : En} {a p : Addr} {o : OC} {d : D} {r : Rv} {v : V} {u : HO} {i : Nat}

theorem same_upd {u : HO} (h : H p = none) : Same H (upd H p u) := fun c o e => by
  rw [upd_ne (ne_of_none e h)]
  exact e
theorem upd_some {c : Addr} (h : H c ≠ none) : upd H p u c ≠ none := by
  by_cases e : c = p
  · rw [e, upd_same]; simp
  · rw [upd_ne e]; exact h

theorem Rep.of_ow (x : Rep K b σ H Φ η) (h : Ow σ η a) : Φ a = none ∧ H a ≠ none := by
  obtain ⟨i, h1, h2⟩ := h
  have q := x.sl i
  rw [some_join h2] at q
  cases e : slot η i with
  | no => rw [e] at h1; cases h1
  | fz d => rw [e] at h1; cases h1
  | own o =>
    rw [e] at q
    obtain ⟨a', e', c⟩ := q
    cases e'
    obtain ⟨u, hu, _⟩ := c.there
    exact ⟨c.nf, by rw [hu]; simp⟩
  | bor o =>
    rw [e] at q
    obtain ⟨a', e', c⟩ := q
    cases e'
    obtain ⟨u, hu, _⟩ := c.there
    exact ⟨c.nf, by rw [hu]; simp⟩
theorem Rep.free0 (x : Rep K b σ H Φ η) (h : H p = none) : Φ p = none := by
  cases e : Φ p with
  | none => rfl
  | some o => rw [x.held _ _ e] at h; cases h
theorem Ext.free0 (x : Ext K b H Φ) (h : H p = none) : Φ p = none := by
  cases e : Φ p with
  | none => rfl
  | some o => rw [x.held _ _ e] at h; cases h
theorem Rep.nowN (x : Rep K b σ H Φ η) (h : H p = none) : ¬ Ow σ η p := fun z => (x.of_ow z).2 h

/-- nothing but the heap and the still part has changed, names stand: all is kept -/
theorem Rep.moved (x : Rep K b σ H Φ η) (hh : ∀ c o, H c = some o → (∀ ps, o ≠ .tbl ps) → H' c = some o) (tr : ∀ c, H c ≠ none → H' c ≠ none) (le : Same Φ Φ') (held : Same Φ' H') (nt : ∀ a ps, Φ' a ≠ some (.tbl ps))
    (fr : ∀ c, Φ' c ≠ none → Φ c = none → b.H c = none ∧ ¬ Ow σ η c) (tabs : Tabs b.T H') : Rep K b σ H' Φ' η where
  held := held
  nt := nt
  grow := x.grow.trans le
  kept := fun a o h1 h2 h3 => hh a o (x.kept a o h1 h2 h3) h3
  still := fun a h => x.still a (by
    cases e : H a with
    | none => rfl
    | some o => exact absurd h (tr a (by rw [e]; simp)))
  frz0 := fun a h1 h2 => by
    cases e : Φ a with
    | none => exact (fr a h1 e).1
    | some o => exact x.frz0 a (by rw [e]; simp) h2
  tabs := tabs
  len := x.len
  sl := fun i => by
    have q := x.sl i
    have own : ∀ o a, σ[i]?.join = some (.ref a) → (slot η i).isOwn = true → OcR K H Φ o a → OcR K H' Φ' o a := fun o a e1 e2 c => by
      refine c.step le (fun u e t => hh a u e t) ?_
      cases e : Φ' a with
      | none => rfl
      | some u => exact absurd ⟨i, e2, join_some e1⟩ (fr a (by rw [e]; simp) c.nf).2
    cases e : slot η i with
    | no => trivial
    | fz d =>
      rw [e] at q
      obtain ⟨v, h1, h2⟩ := q
      exact ⟨v, h1, h2.mono le⟩
    | own o =>
      rw [e] at q
      obtain ⟨a, h1, h2⟩ := q
      exact ⟨a, h1, own o a h1 (by rw [e]; rfl) h2⟩
    | bor o =>
      rw [e] at q
      obtain ⟨a, h1, h2⟩ := q
      exact ⟨a, h1, own o a h1 (by rw [e]; rfl) h2⟩
  sep := x.sep
  ownF := x.ownF
  bor1 := x.bor1
  bor2 := x.bor2
  he := x.he

theorem Stp.moved (hh : ∀ c o, H c = some o → (∀ ps, o ≠ .tbl ps) → H' c = some o) (tr : ∀ c, H c ≠ none → H' c ≠ none) (le : Same Φ Φ') (fr : ∀ c, H c ≠ none → Φ c = none → Φ' c = none) : Stp σ H Φ η H' Φ' η :=
  ⟨le, fun a o h _ t => hh a o h t, fun a h f _ => fr a h f, fun _ h => h, fun _ h => h, rfl, tr⟩

theorem upd_nt {u : HO} (x : ∀ a ps, Φ a ≠ some (.tbl ps)) (t : ∀ ps, u ≠ .tbl ps) : ∀ a ps, upd Φ p u a ≠ some (.tbl ps) := fun a ps z => by
  by_cases e : a = p
  · rw [e, upd_same] at z
    exact t ps (Option.some.inj z)
  · rw [upd_ne e] at z
    exact x a ps z

/-- a new thing that stands still -/
theorem Rep.alloc (x : Rep K b σ H Φ η) (h : H p = none) (t : ∀ ps, u ≠ .tbl ps) : Rep K b σ (upd H p u) (upd Φ p u) η ∧ Stp σ H Φ η (upd H p u) (upd Φ p u) η := by
  have fp := x.free0 h
  constructor
  · refine x.moved (fun c o e _ => same_upd h c o e) (fun c q => upd_some q) (same_upd fp) (fun c o e => ?_) (upd_nt x.nt t) (fun c h1 h2 => ?_) (x.tabs.ext (same_upd h))
    · by_cases hc : c = p
      · rw [hc, upd_same] at e ⊢; exact e
      · rw [upd_ne hc] at e ⊢; exact x.held c o e
    · by_cases hc : c = p
      · rw [hc]; exact ⟨x.still p h, x.nowN h⟩
      · rw [upd_ne hc] at h1; exact absurd h2 h1
  · refine Stp.moved (fun c o e _ => same_upd h c o e) (fun c q => upd_some q) (same_upd fp) (fun c h1 h2 => ?_)
    by_cases hc : c = p
    · rw [hc] at h1; exact absurd h h1
    · rw [upd_ne hc]; exact h2

/-- a new thing of one's own -/
theorem Rep.allocOwn (x : Rep K b σ H Φ η) (h : H p = none) : Rep K b σ (upd H p u) Φ η ∧ Stp σ H Φ η (upd H p u) Φ η := by
  have fp := x.free0 h
  constructor
  · refine x.moved (fun c o e _ => same_upd h c o e) (fun c q => upd_some q) (fun _ _ e => e) (fun c o e => same_upd h c o (x.held c o e)) x.nt (fun c h1 h2 => absurd h2 h1) (x.tabs.ext (same_upd h))
  · exact Stp.moved (fun c o e _ => same_upd h c o e) (fun c q => upd_some q) (fun _ _ e => e) (fun c _ h2 => h2)

/-- a thing of one's own, held by no name, stands still from now on -/
theorem Rep.still1 {H0 Φ0 : Hp} {η0 : En} (x0 : Rep K b σ H0 Φ0 η0) (x : Rep K b σ H Φ η) (S : Stp σ H0 Φ0 η0 H Φ η) (c : OcR K H Φ o a) (h0 : H0 a = none) (hn : ¬ Ow σ η a) : ∃ Φ', Rep K b σ H Φ' η ∧ Stp σ H0 Φ0 η0 H Φ' η ∧ R K Φ' o.d (.ref a) := by
  obtain ⟨u, hu, t⟩ := c.there
  have sm : Same Φ (upd Φ a u) := same_upd c.nf
  have hb := x0.still a h0
  refine ⟨upd Φ a u, x.moved (fun _ _ e _ => e) (fun _ h => h) sm (fun e o q => ?_) (upd_nt x.nt t) (fun e h1 h2 => ?_) x.tabs, ?_, c.toR sm (by rw [upd_same, hu])⟩
  · by_cases he : e = a
    · rw [he, upd_same] at q; rw [he, hu]; exact q
    · rw [upd_ne he] at q; exact x.held e o q
  · by_cases he : e = a
    · rw [he]; exact ⟨hb, hn⟩
    · rw [upd_ne he] at h1; exact absurd h2 h1
  · exact ⟨S.le.trans sm, S.keep, fun e h1 h2 h3 => by
      have he : e ≠ a := fun z => h1 (by rw [z]; exact h0)
      rw [upd_ne he]
      exact S.nof e h1 h2 h3, S.sub, S.nn, S.ln, S.trk⟩
/-- what the name i holds stands still from now on -/
theorem Rep.still2 {H0 Φ0 : Hp} {η0 : En} (x : Rep K b σ H Φ η) (S : Stp σ H0 Φ0 η0 H Φ η) (hs : slot η i = .own o) (hv : σ[i]? = some (some v)) :
    ∃ Φ', Rep K b σ H Φ' (η.set i (.fz o.d)) ∧ Stp σ H0 Φ0 η0 H Φ' (η.set i (.fz o.d)) ∧ R K Φ' o.d v := by
  have q := x.sl i
  rw [hs, some_join hv] at q
  obtain ⟨a, e, c⟩ := q
  cases e
  have il : i < η.length := slot_lt (by rw [hs]; simp)
  obtain ⟨u, hu, t⟩ := c.there
  have sm : Same Φ (upd Φ a u) := same_upd c.nf
  have ow : Ow σ η a := ⟨i, by rw [hs]; rfl, hv⟩
  have rr : R K (upd Φ a u) o.d (.ref a) := c.toR sm (by rw [upd_same, hu])
  have isO : ∀ j, (slot (η.set i (.fz o.d)) j).isOwn = true → j ≠ i ∧ (slot η j).isOwn = true := fun j h => by
    by_cases hj : j = i
    · rw [hj, slot_set_same il] at h; cases h
    · rw [slot_set_ne hj] at h; exact ⟨hj, h⟩
  refine ⟨upd Φ a u, ?_, ?_, rr⟩
  · refine { held := fun e o q => ?_, nt := upd_nt x.nt t, grow := x.grow.trans sm, kept := x.kept, still := x.still, frz0 := fun e h1 h2 => ?_, tabs := x.tabs, len := by rw [List.length_set]; exact x.len, sl := fun j => ?_,
             sep := fun j k e h1 h2 => x.sep j k e (isO j h1).2 (isO k h2).2, ownF := fun j e o' h1 h2 => ?_, bor1 := fun j e h => ?_, bor2 := fun j o' h => ?_, he := x.he }
    · by_cases he : e = a
      · rw [he, upd_same] at q; rw [he, hu]; exact q
      · rw [upd_ne he] at q; exact x.held e o q
    · by_cases he : e = a
      · rw [he]; exact x.ownF i a o hs hv
      · rw [upd_ne he] at h1; exact x.frz0 e h1 h2
    · by_cases hj : j = i
      · rw [hj, slot_set_same il, some_join hv]; exact ⟨_, rfl, rr⟩
      · rw [slot_set_ne hj]
        have q := x.sl j
        have own : ∀ o' a', σ[j]?.join = some (.ref a') → (slot η j).isOwn = true → OcR K H Φ o' a' → OcR K H (upd Φ a u) o' a' := fun o' a' e1 e2 c' => by
          refine c'.step sm (fun _ e _ => e) ?_
          have ne : a' ≠ a := fun z => hj (x.sep j i a e2 (by rw [hs]; rfl) (by rw [← z]; exact join_some e1) hv)
          rw [upd_ne ne]; exact c'.nf
        cases e : slot η j with
        | no => trivial
        | fz d =>
          rw [e] at q
          obtain ⟨v, h1, h2⟩ := q
          exact ⟨v, h1, h2.mono sm⟩
        | own o' =>
          rw [e] at q
          obtain ⟨a', h1, h2⟩ := q
          exact ⟨a', h1, own o' a' h1 (by rw [e]; rfl) h2⟩
        | bor o' =>
          rw [e] at q
          obtain ⟨a', h1, h2⟩ := q
          exact ⟨a', h1, own o' a' h1 (by rw [e]; rfl) h2⟩
    · by_cases hj : j = i
      · rw [hj, slot_set_same il] at h1; cases h1
      · rw [slot_set_ne hj] at h1; exact x.ownF j e o' h1 h2
    · obtain ⟨⟨o', h1⟩, h2⟩ := x.bor1 j e h
      have hj : j ≠ i := fun z => by rw [z, hs] at h1; cases h1
      exact ⟨⟨o', by rw [slot_set_ne hj]; exact h1⟩, h2⟩
    · by_cases hj : j = i
      · rw [hj, slot_set_same il] at h; cases h
      · rw [slot_set_ne hj] at h; exact x.bor2 j o' h
  · refine ⟨S.le.trans sm, S.keep, fun e h1 h2 h3 => ?_, fun j h => S.sub j (isO j h).2, fun j h => ?_, by rw [List.length_set]; exact S.ln, S.trk⟩
    · have he : e ≠ a := fun z => h3 (by rw [z]; exact ⟨i, S.sub i (by rw [hs]; rfl), hv⟩)
      rw [upd_ne he]
      exact S.nof e h1 h2 h3
    · by_cases hj : j = i
      · rw [hj, slot_set_same il] at h; cases h
      · rw [slot_set_ne hj] at h; exact S.nn j h

def frzQ (r : Rv) (η : En) (Q : D → En → Prop) : Prop :=
  match r with
  | .fz d => Q d η
  | .own o => Q o.d η
  | .at i => match slot η i with
    | .fz d => Q d η
    | .own o => Q o.d (η.set i (.fz o.d))
    | _ => False
def rdQ (r : Rv) (η : En) (Q : D → Prop) : Prop :=
  match r with
  | .fz d => Q d
  | .own o => Q o.d
  | .at i => match slot η i with
    | .fz d => Q d
    | .own o => Q o.d
    | .bor o => Q o.d
    | .no => False
theorem frz_ok {H0 Φ0 : Hp} {η0 : En} {Q : D → En → Prop} (x0 : Rep K b σ H0 Φ0 η0) (x : Rep K b σ H Φ η) (S : Stp σ H0 Φ0 η0 H Φ η) (rv : RvR K σ H0 H Φ η r v) (q : frzQ r η Q) :
    ∃ d Φ' η', Rep K b σ H Φ' η' ∧ Stp σ H0 Φ0 η0 H Φ' η' ∧ R K Φ' d v ∧ Q d η' := by
  cases r with
  | fz d => exact ⟨d, Φ, η, x, S, rv, q⟩
  | own o =>
    obtain ⟨a, rfl, c, f, n⟩ := rv
    obtain ⟨Φ', x', S', rr⟩ := Rep.still1 x0 x S c f n
    exact ⟨o.d, Φ', η, x', S', rr, q⟩
  | «at» i =>
    obtain ⟨hv, _⟩ := rv
    have q' : (match slot η i with
      | .fz d => Q d η
      | .own o => Q o.d (η.set i (.fz o.d))
      | _ => False) := q
    cases e : slot η i with
    | no => rw [e] at q'; exact q'.elim
    | bor o => rw [e] at q'; exact q'.elim
    | fz d =>
      rw [e] at q'
      have z := x.sl i
      rw [e, some_join hv] at z
      obtain ⟨v', e', rr⟩ := z
      cases e'
      exact ⟨d, Φ, η, x, S, rr, q'⟩
    | own o =>
      rw [e] at q'
      obtain ⟨Φ', x', S', rr⟩ := x.still2 S e hv
      exact ⟨o.d, Φ', _, x', S', rr, q'⟩
theorem rd_ok {H0 : Hp} {Q : D → Prop} (x : Rep K b σ H Φ η) (rv : RvR K σ H0 H Φ η r v) (q : rdQ r η Q) : ∃ d, RdR K H Φ d v ∧ Q d := by
  cases r with
  | fz d => exact ⟨d, .inl rv, q⟩
  | own o =>
    obtain ⟨a, rfl, c, f, n⟩ := rv
    exact ⟨o.d, .inr ⟨o, a, rfl, rfl, c⟩, q⟩
  | «at» i =>
    obtain ⟨hv, _⟩ := rv
    have q' : (match slot η i with
      | .fz d => Q d
      | .own o => Q o.d
      | .bor o => Q o.d
      | .no => False) := q
    have z := x.sl i
    rw [some_join hv] at z
    cases e : slot η i with
    | no => rw [e] at q'; exact q'.elim
    | fz d =>
      rw [e] at q' z
      obtain ⟨v', e', rr⟩ := z
      cases e'
      exact ⟨d, .inl rr, q'⟩
    | own o =>
      rw [e] at q' z
      obtain ⟨a, e', c⟩ := z
      cases e'
      exact ⟨o.d, .inr ⟨o, a, rfl, rfl, c⟩, q'⟩
    | bor o =>
      rw [e] at q' z
      obtain ⟨a, e', c⟩ := z
      cases e'
      exact ⟨o.d, .inr ⟨o, a, rfl, rfl, c⟩, q'⟩
theorem RdR.lst {ds : List D} (x : Same Φ H) (h : RdR K H Φ (.lst ds) v) : ∃ a vs, v = .ref a ∧ H a = some (.lst vs) ∧ Rs K Φ ds vs := by
  rcases h with h | ⟨o, a, e, rfl, c⟩
  · obtain ⟨a, vs, e, s, q⟩ := h
    exact ⟨a, vs, e, x _ _ s, q⟩
  · cases o with
    | lst ds' =>
      cases e
      obtain ⟨_, vs, s, q⟩ := c
      exact ⟨a, vs, rfl, s, q⟩
    | dct ks ds => cases e
theorem RdR.rol {ds : List D} (x : Same Φ H) (h : RdR K H Φ (.rol ds) v) : ∃ a vs, v = .ref a ∧ SqL K H a vs ∧ SqL K Φ a vs ∧ Rs K Φ ds vs := by
  rcases h with h | ⟨o, a, e, rfl, c⟩
  · obtain ⟨a, vs, e, s, q⟩ := h
    exact ⟨a, vs, e, x.seq s, s, q⟩
  · cases o <;> cases e
/-- in the whole heap -/
theorem RdR.whole (x : Same Φ H) (h : RdR K H Φ d v) : R K H d v := by
  rcases h with h | ⟨o, a, rfl, rfl, c⟩
  · exact h.mono x
  · exact c.toR x rfl
theorem RdR.tup {ds : List D} (x : Same Φ H) (h : RdR K H Φ (.tup ds) v) : ∃ a vs, v = .ref a ∧ SqT K H a vs ∧ SqT K Φ a vs ∧ Rs K Φ ds vs := by
  rcases h with h | ⟨o, a, e, rfl, c⟩
  · obtain ⟨a, vs, e, s, q⟩ := h
    exact ⟨a, vs, e, sqT_mono x s, s, q⟩
  · cases o <;> cases e
theorem RdR.dct {ks : List Key} {ds : List D} (x : Same Φ H) (h : RdR K H Φ (.dct ks ds) v) : ∃ a ws, v = .ref a ∧ H a = some (.dK ws) ∧ ws.map (·.1) = ks ∧ Rs K Φ ds (ws.map (·.2)) := by
  rcases h with h | ⟨o, a, e, rfl, c⟩
  · obtain ⟨a, ws, e, s, k, q⟩ := h
    exact ⟨a, ws, e, x _ _ s, k, q⟩
  · cases o with
    | lst ds' => cases e
    | dct ks' ds' =>
      cases e
      obtain ⟨_, ws, s, k, q⟩ := c
      exact ⟨a, ws, rfl, s, k, q⟩
/-- flat data -/
theorem RdR.flat (h : RdR K H Φ d v) (hd : ∀ o : OC, d ≠ o.d) : R K Φ d v := by
  rcases h with h | ⟨o, a, e, _, _⟩
  · exact h
  · exact absurd e (hd o)
theorem RdR.int {i : Int} (h : RdR K H Φ (.int i) v) : v = .int i := h.flat (fun o => by cases o <;> simp [OC.d])
theorem RdR.bl {i : Bool} (h : RdR K H Φ (.bl i) v) : v = .bl i := h.flat (fun o => by cases o <;> simp [OC.d])
theorem RdR.str {i : Str} (h : RdR K H Φ (.str i) v) : v = .str i := h.flat (fun o => by cases o <;> simp [OC.d])
theorem RdR.non (h : RdR K H Φ .non v) : v = .non := h.flat (fun o => by cases o <;> simp [OC.d])
theorem Stp.rd {d : D} (x : Stp σ H Φ η H' Φ' η') (h : R K Φ d v) : R K Φ' d v := h.mono x.le

theorem Rs.length : ∀ {ds : List D} {vs : List V}, Rs K Φ ds vs → ds.length = vs.length
  | [], vs, h => by rw [show vs = [] from h]; rfl
  | d :: ds, vs, h => by
    obtain ⟨v, r, rfl, _, q⟩ := h
    rw [List.length_cons, List.length_cons, Rs.length q]
theorem Rs.get : ∀ {ds : List D} {vs : List V} {i : Nat} {d : D}, Rs K Φ ds vs → ds[i]? = some d → ∃ v, vs[i]? = some v ∧ R K Φ d v
  | [], vs, i, d, h, e => by simp at e
  | d :: ds, vs, 0, d', h, e => by
    obtain ⟨v, r, rfl, h1, _⟩ := h
    cases e
    exact ⟨v, rfl, h1⟩
  | d :: ds, vs, i + 1, d', h, e => by
    obtain ⟨v, r, rfl, _, q⟩ := h
    exact Rs.get (i := i) q (by simpa using e)
theorem Rs.app : ∀ {ds es : List D} {vs ws : List V}, Rs K Φ ds vs → Rs K Φ es ws → Rs K Φ (ds ++ es) (vs ++ ws)
  | [], es, vs, ws, h, q => by rw [show vs = [] from h]; exact q
  | d :: ds, es, vs, ws, h, q => by
    obtain ⟨v, r, rfl, h1, h2⟩ := h
    exact ⟨v, r ++ ws, rfl, h1, Rs.app h2 q⟩
theorem Rs.one (h : R K Φ d v) : Rs K Φ [d] [v] := ⟨v, [], rfl, h, rfl⟩
theorem Rs.set : ∀ {ds : List D} {vs : List V} (j : Nat), Rs K Φ ds vs → R K Φ d v → Rs K Φ (ds.set j d) (vs.set j v)
  | [], vs, j, h, _ => by rw [show vs = [] from h]; rfl
  | d :: ds, vs, 0, h, q => by
    obtain ⟨v, r, rfl, h1, h2⟩ := h
    exact ⟨_, r, rfl, q, h2⟩
  | d :: ds, vs, j + 1, h, q => by
    obtain ⟨v, r, rfl, h1, h2⟩ := h
    exact ⟨v, r.set j _, rfl, h1, Rs.set j h2 q⟩
theorem Rs.take : ∀ {ds : List D} {vs : List V} (n : Nat), Rs K Φ ds vs → Rs K Φ (ds.take n) (vs.take n)
  | [], vs, n, h => by rw [show vs = [] from h]; simp [Rs]
  | d :: ds, vs, 0, h => rfl
  | d :: ds, vs, n + 1, h => by
    obtain ⟨v, r, rfl, h1, h2⟩ := h
    exact ⟨v, r.take n, rfl, h1, Rs.take n h2⟩
theorem Rs.drop : ∀ {ds : List D} {vs : List V} (n : Nat), Rs K Φ ds vs → Rs K Φ (ds.drop n) (vs.drop n)
  | [], vs, n, h => by rw [show vs = [] from h]; simp [Rs]
  | d :: ds, vs, 0, h => h
  | d :: ds, vs, n + 1, h => by
    obtain ⟨v, r, rfl, h1, h2⟩ := h
    exact Rs.drop n h2
end
end DL

set_option Elab.async false
set_option linter.all false
set_option maxRecDepth 100000
namespace DL
open PySem PySem.Spec PyProof.Rows L2 LamX

abbrev DTE := En → (Rv → En → Prop) → Prop
abbrev DTT := En → (Bool → En → Prop) → Prop
inductive Ar where
  | d (d : D) | at (i : Nat)
abbrev DTA := En → (List Ar → En → Prop) → Prop
structure DEnds where
  nx : En → Prop
  rt : Rv → En → Prop
  bk : En → Prop := fun _ => False
  ct : En → Prop := fun _ => False
abbrev DTS := DEnds → En → Prop

def ArR (K : PySem.W.Frag) (σ : L2.St) (Φ : Hp) : Ar → V → Prop
  | .d d, v => R K Φ d v
  | .at i, v => σ[i]? = some (some v)
def ArsR (K : PySem.W.Frag) (σ : L2.St) (Φ : Hp) : List Ar → List V → Prop
  | [], vs => vs = []
  | a :: as, vs => ∃ v r, vs = v :: r ∧ ArR K σ Φ a v ∧ ArsR K σ Φ as r

section
variable (K : PySem.W.Frag) (b : Bs)
def canE (td : DTE) : TE := fun σ H Q => ∃ Φ η Qd, Rep K b σ H Φ η ∧ td η Qd ∧
  ∀ v H' Φ' η' r, Rep K b σ H' Φ' η' → Stp σ H Φ η H' Φ' η' → RvR K σ H H' Φ' η' r v → Qd r η' → Q v H'
def canT (td : DTT) : TT := fun σ H Q => ∃ Φ η Qd, Rep K b σ H Φ η ∧ td η Qd ∧
  ∀ k H' Φ' η', Rep K b σ H' Φ' η' → Stp σ H Φ η H' Φ' η' → Qd k η' → Q k H'
def canA (td : DTA) : TA := fun σ H Q => ∃ Φ η Qd, Rep K b σ H Φ η ∧ td η Qd ∧
  ∀ vs H' Φ' η' as, Rep K b σ H' Φ' η' → Stp σ H Φ η H' Φ' η' → ArsR K σ Φ' as vs → Qd as η' → Q vs H'
def canS (td : DTS) : TS := fun Dh σ H => ∃ Φ η Dd, Rep K b σ H Φ η ∧ td Dd η ∧
  (∀ σ' H' Φ' η', Rep K b σ' H' Φ' η' → Same Φ Φ' → Dd.nx η' → Dh.nx σ' H') ∧
  (∀ v σ' H' Φ' η' r, Rep K b σ' H' Φ' η' → RvR K σ' b.H H' Φ' η' r v → Dd.rt r η' → Dh.rt v H') ∧
  (∀ σ' H' Φ' η', Rep K b σ' H' Φ' η' → Same Φ Φ' → Dd.bk η' → Dh.bk σ' H') ∧
  (∀ σ' H' Φ' η', Rep K b σ' H' Φ' η' → Same Φ Φ' → Dd.ct η' → Dh.ct σ' H')
end

structure DE (X : Cx) (b : Bs) (e : Expr) (td : DTE) : Prop where
  pe : PE X e (canE X.K b td)
structure DT (X : Cx) (b : Bs) (e : Expr) (td : DTT) : Prop where
  pt : PT X e (canT X.K b td)
structure DW (X : Cx) (b : Bs) (e : Expr) (td : DTT) : Prop where
  pw : PW X e (canT X.K b td)
structure DA (X : Cx) (b : Bs) (es : List Expr) (td : DTA) : Prop where
  pa : PA X es (canA X.K b td)
structure DS (X : Cx) (b : Bs) (st : Stmt) (td : DTS) : Prop where
  ps : PS X st (canS X.K b td)
structure DSs (X : Cx) (b : Bs) (st : List Stmt) (td : DTS) : Prop where
  pss : PSs X st (canS X.K b td)

section
variable {X : Cx} {b : Bs} {e : Expr}
theorem pe_imp {t t' : TE} (h : PE X e t) (i : ∀ σ H Q, t' σ H Q → t σ H Q) : PE X e t' := ⟨fun pins s σ H Q I q => h.run pins s σ H Q I (i _ _ _ q)⟩
theorem pt_imp {t t' : TT} (h : PT X e t) (i : ∀ σ H Q, t' σ H Q → t σ H Q) : PT X e t' := ⟨fun pins s σ H Q I q => h.run pins s σ H Q I (i _ _ _ q)⟩
theorem pw_imp {t t' : TT} (h : PW X e t) (i : ∀ σ H Q, t' σ H Q → t σ H Q) : PW X e t' := ⟨fun wh pins s σ H Q I q => h.run wh pins s σ H Q I (i _ _ _ q)⟩
theorem pa_imp {es : List Expr} {t t' : TA} (h : PA X es t) (i : ∀ σ H Q, t' σ H Q → t σ H Q) : PA X es t' := ⟨fun pos pins s σ H Q I q => h.run pos pins s σ H Q I (i _ _ _ q)⟩
theorem ps_imp {st : Stmt} {t t' : TS} (h : PS X st t) (i : ∀ D σ H, t' D σ H → t D σ H) : PS X st t' := ⟨fun pins s σ H D I q => h.run pins s σ H D I (i _ _ _ q)⟩
theorem pss_imp {st : List Stmt} {t t' : TS} (h : PSs X st t) (i : ∀ D σ H, t' D σ H → t D σ H) : PSs X st t' := ⟨fun pins s σ H D I q => h.run pins s σ H D I (i _ _ _ q)⟩

/-- a name: data, or its object -/
def nmQ (i : Nat) (η : En) (Q : Rv → En → Prop) : Prop :=
  match slot η i with
  | .no => False
  | .fz d => Q (.fz d) η
  | _ => Q (.at i) η
def dV (i : Nat) : DTE := fun η Q => nmQ i η Q
def dC (d : D) : DTE := fun η Q => Q (.fz d) η
theorem de_v (i : Nat) {x : Str} {pos : Pos} (hN : X.N[i]? = some x := by rfl) (hv : Vis X.env.scope x := by first | exact Or.inl rfl | exact Or.inr (Or.inl rfl) | exact Or.inr (Or.inr rfl))
    (hd : (x == ("__debug__" : Str)) = false := by decide) (hcd : (x == ("__classdict__" : Str)) = false := by decide) : DE X b (.Name x pos) (dV i) := by
  refine ⟨pe_imp (pe_var hN hv hd hcd) fun σ H Q h => ?_⟩
  obtain ⟨Φ, η, Qd, x, q, k⟩ := h
  have q' : nmQ i η Qd := q
  unfold nmQ at q'
  have z := x.sl i
  cases e : slot η i with
  | no => rw [e] at q'; exact q'.elim
  | fz d =>
    rw [e] at q' z
    obtain ⟨v, hv, rr⟩ := z
    exact ⟨v, join_some hv, k v H Φ η (.fz d) x .refl rr q'⟩
  | own o =>
    rw [e] at q' z
    obtain ⟨a, hv, _⟩ := z
    exact ⟨.ref a, join_some hv, k _ H Φ η (.at i) x .refl ⟨join_some hv, by rw [e]; simp⟩ q'⟩
  | bor o =>
    rw [e] at q' z
    obtain ⟨a, hv, _⟩ := z
    exact ⟨.ref a, join_some hv, k _ H Φ η (.at i) x .refl ⟨join_some hv, by rw [e]; simp⟩ q'⟩
theorem can_c {d : D} {v : V} {σ : L2.St} {H : Hp} {Q : VK} (r : ∀ Φ, R X.K Φ d v) (h : canE X.K b (dC d) σ H Q) : tC v σ H Q := by
  obtain ⟨Φ, η, Qd, x, q, k⟩ := h
  exact k v H Φ η (.fz d) x .refl (r Φ) q
theorem de_int {i j pos} : DE X b (.Constant (.int i) j pos) (dC (.int i)) := ⟨pe_imp pe_int fun _ _ _ h => can_c (d := .int i) (v := .int i) (fun _ => rfl) h⟩
theorem de_bl {i j pos} : DE X b (.Constant (.bool i) j pos) (dC (.bl i)) := ⟨pe_imp pe_bl fun _ _ _ h => can_c (d := .bl i) (v := .bl i) (fun _ => rfl) h⟩
theorem de_non {j pos} : DE X b (.Constant .none j pos) (dC .non) := ⟨pe_imp pe_non fun _ _ _ h => can_c (d := .non) (v := .non) (fun _ => rfl) h⟩
theorem de_str {i j pos} : DE X b (.Constant (.str i) j pos) (dC (.str i)) := ⟨pe_imp pe_str fun _ _ _ h => can_c (d := .str i) (v := .str i) (fun _ => rfl) h⟩
/-- a module's constant -/
theorem de_gl {x : Str} {v : V} {u : Value} {d : D} {pos : Pos} (hg : Gl X x) (hm : X.mg x = some u) (r : RelV v u) (rd : ∀ Φ, R X.K Φ d v) (hd : (x == ("__debug__" : Str)) = false := by decide) : DE X b (.Name x pos) (dC d) :=
  ⟨pe_imp (pe_glob hg hm r hd) fun _ _ _ h => can_c rd h⟩

variable {es : List Expr} {t : DTE} {ta : DTA} {pos : Pos}
def dNil : DTA := fun η Q => Q [] η
def dCons (t : DTE) (ta : DTA) : DTA := fun η Q => t η fun r η1 => frzQ r η1 fun d η2 => ta η2 fun as η3 => Q (.d d :: as) η3
/-- a name's object, lent -/
def dBor (i : Nat) (ta : DTA) : DTA := fun η Q => (slot η i).isOwn = true ∧ ta η fun as η1 => Q (.at i :: as) η1
theorem da_nil : DA X b [] dNil := ⟨pa_imp L2.pa_nil fun σ H Q h => by
  obtain ⟨Φ, η, Qd, x, q, k⟩ := h
  exact k [] H Φ η [] x .refl rfl q⟩
theorem ArsR.step {σ : L2.St} {Φ Φ' : Hp} (le : Same Φ Φ') : ∀ {as : List Ar} {vs : List V}, ArsR X.K σ Φ as vs → ArsR X.K σ Φ' as vs
  | [], vs, h => h
  | a :: as, vs, h => by
    obtain ⟨v, r, e, h1, h2⟩ := h
    refine ⟨v, r, e, ?_, ArsR.step le h2⟩
    cases a with
    | d d => exact R.mono le h1
    | «at» i => exact h1
theorem da_cons (he : DE X b e t) (hr : DA X b es ta) (hs : starEach (e :: es) X.env = (false, eval e X.env) :: starEach es X.env := by rfl) : DA X b (e :: es) (dCons t ta) := by
  refine ⟨pa_imp (L2.pa_cons he.pe hr.pa hs) fun σ H Q h => ?_⟩
  obtain ⟨Φ, η, Qd, x, q, k⟩ := h
  refine ⟨Φ, η, _, x, q, fun v H1 Φ1 η1 r x1 S1 rv q1 => ?_⟩
  obtain ⟨d, Φ2, η2, x2, S2, rr, q2⟩ := frz_ok x x1 S1 rv q1
  refine ⟨Φ2, η2, _, x2, q2, fun vs H3 Φ3 η3 as x3 S3 rs q3 => ?_⟩
  exact k (v :: vs) H3 Φ3 η3 (.d d :: as) x3 (S2.trans S3) ⟨v, vs, rfl, rr.mono S3.le, rs⟩ q3
theorem da_bor (i : Nat) {x : Str} {p : Pos} (hr : DA X b es ta) (hN : X.N[i]? = some x := by rfl) (hv : Vis X.env.scope x := by first | exact Or.inl rfl | exact Or.inr (Or.inl rfl) | exact Or.inr (Or.inr rfl))
    (hd : (x == ("__debug__" : Str)) = false := by decide) (hcd : (x == ("__classdict__" : Str)) = false := by decide)
    (hs : starEach (.Name x p :: es) X.env = (false, eval (.Name x p) X.env) :: starEach es X.env := by rfl) : DA X b (.Name x p :: es) (dBor i ta) := by
  refine ⟨pa_imp (L2.pa_cons (pe_var (pos := p) hN hv hd hcd) hr.pa hs) fun σ H Q h => ?_⟩
  obtain ⟨Φ, η, Qd, x, ⟨ho, q⟩, k⟩ := h
  have z := x.sl i
  have w : ∃ v, σ[i]? = some (some v) := by
    cases e : slot η i with
    | no => rw [e] at ho; cases ho
    | fz d => rw [e] at ho; cases ho
    | own o => rw [e] at z; obtain ⟨a, hv, _⟩ := z; exact ⟨_, join_some hv⟩
    | bor o => rw [e] at z; obtain ⟨a, hv, _⟩ := z; exact ⟨_, join_some hv⟩
  obtain ⟨v, hv⟩ := w
  refine ⟨v, hv, Φ, η, _, x, q, fun vs H3 Φ3 η3 as x3 S3 rs q3 => ?_⟩
  exact k (v :: vs) H3 Φ3 η3 (.at i :: as) x3 S3 ⟨v, vs, rfl, hv, rs⟩ q3
/-- plain data all -/
def dsQ (as : List Ar) (Q : List D → Prop) : Prop :=
  match as with
  | [] => Q []
  | .d d :: as => dsQ as fun ds => Q (d :: ds)
  | .at _ :: _ => False
theorem ds_ok {K : PySem.W.Frag} {σ : L2.St} {Φ : Hp} : ∀ {as : List Ar} {vs : List V} {Q : List D → Prop}, ArsR K σ Φ as vs → dsQ as Q → ∃ ds, Rs K Φ ds vs ∧ Q ds
  | [], vs, Q, h, q => ⟨[], h, q⟩
  | .d d :: as, vs, Q, h, q => by
    obtain ⟨v, r, rfl, h1, h2⟩ := h
    obtain ⟨ds, rs, q'⟩ := ds_ok h2 q
    exact ⟨d :: ds, ⟨v, r, rfl, h1, rs⟩, q'⟩
  | .at i :: as, vs, Q, h, q => q.elim

def dTup (ta : DTA) : DTE := fun η Q => ta η fun as η1 => dsQ as fun ds => ds.length ≤ sizeLine ∧ Q (.fz (.tup ds)) η1
def dLst (ta : DTA) : DTE := fun η Q => ta η fun as η1 => dsQ as fun ds => ds.length ≤ sizeLine ∧ Q (.own (.lst ds)) η1
theorem de_tup {x1} (h : DA X b es ta) : DE X b (.Tuple es x1 pos) (dTup ta) := by
  refine ⟨pe_imp (pe_tup h.pa) fun σ H Q h => ?_⟩
  obtain ⟨Φ, η, Qd, x, q, k⟩ := h
  refine ⟨Φ, η, _, x, q, fun vs H1 Φ1 η1 as x1 S1 rs q1 => ?_⟩
  obtain ⟨ds, rs, hl, q2⟩ := ds_ok rs q1
  refine ⟨by rw [← rs.length]; exact hl, fun p hp => ?_⟩
  have t : ∀ ps, (HO.tup vs) ≠ .tbl ps := fun ps z => by cases z
  obtain ⟨x2, S2⟩ := x1.alloc (u := .tup vs) hp t
  exact k _ _ _ η1 (.fz (.tup ds)) x2 (S1.trans S2) ⟨p, vs, rfl, .inl (.inl upd_same), rs.mono S2.le⟩ q2
theorem de_lst (h : DA X b es ta) : DE X b (.List es pos) (dLst ta) := by
  refine ⟨pe_imp (pe_lst h.pa) fun σ H Q h => ?_⟩
  obtain ⟨Φ, η, Qd, x, q, k⟩ := h
  refine ⟨Φ, η, _, x, q, fun vs H1 Φ1 η1 as x1 S1 rs q1 => ?_⟩
  obtain ⟨ds, rs, hl, q2⟩ := ds_ok rs q1
  refine ⟨by rw [← rs.length]; exact hl, fun p hp => ?_⟩
  obtain ⟨x2, S2⟩ := x1.allocOwn (u := .lst vs) hp
  have h0 : H p = none := by
    cases e : H p with
    | none => rfl
    | some u => exact absurd hp (S1.trk p (by rw [e]; simp))
  exact k _ _ _ η1 (.own (.lst ds)) x2 (S1.trans S2) ⟨p, rfl, ⟨x1.free0 hp, vs, upd_same, rs⟩, h0, x1.nowN hp⟩ q2
end
end DL

set_option Elab.async false
set_option linter.all false
set_option maxRecDepth 100000
namespace DL
open PySem PySem.Spec PyProof.Rows L2 LamX

structure At (K : PySem.W.Frag) (b : Bs) (σ : L2.St) (H0 Φ0 : Hp) (η0 : En) (H Φ : Hp) (η : En) : Prop where
  x0 : Rep K b σ H0 Φ0 η0
  x : Rep K b σ H Φ η
  S : Stp σ H0 Φ0 η0 H Φ η
def Cont (K : PySem.W.Frag) (b : Bs) (σ : L2.St) (H0 Φ0 : Hp) (η0 η : En) (Qd : Rv → Prop) (Qh : VK) : Prop :=
  ∀ v H' Φ' r, Rep K b σ H' Φ' η → Stp σ H0 Φ0 η0 H' Φ' η → RvR K σ H0 H' Φ' η r v → Qd r → Qh v H'
section
variable {K : PySem.W.Frag} {b : Bs} {σ : L2.St} {H0 Φ0 H Φ : Hp} {η0 η : En} {Qd : Rv → Prop} {Qh : VK} {d : D} {ds : List D} {v : V} {vs : List V} {p : Addr}
theorem At.free (s : At K b σ H0 Φ0 η0 H Φ η) (hp : H p = none) : H0 p = none := by
  cases e : H0 p with
  | none => rfl
  | some u => exact absurd hp (s.S.trk p (by rw [e]; simp))
theorem At.fz (s : At K b σ H0 Φ0 η0 H Φ η) (k : Cont K b σ H0 Φ0 η0 η Qd Qh) (r : R K Φ d v) (q : Qd (.fz d)) : Qh v H := k v H Φ (.fz d) s.x s.S r q
theorem At.newT (s : At K b σ H0 Φ0 η0 H Φ η) (k : Cont K b σ H0 Φ0 η0 η Qd Qh) (hp : H p = none) (rs : Rs K Φ ds vs) (q : Qd (.fz (.tup ds))) : Qh (.ref p) (upd H p (.tup vs)) := by
  obtain ⟨x2, S2⟩ := s.x.alloc (u := .tup vs) hp (fun ps z => by cases z)
  exact k _ _ _ (.fz (.tup ds)) x2 (s.S.trans S2) ⟨p, vs, rfl, .inl (.inl upd_same), rs.mono S2.le⟩ q
theorem At.newL (s : At K b σ H0 Φ0 η0 H Φ η) (k : Cont K b σ H0 Φ0 η0 η Qd Qh) (hp : H p = none) (rs : Rs K Φ ds vs) (q : Qd (.own (.lst ds))) : Qh (.ref p) (upd H p (.lst vs)) := by
  obtain ⟨x2, S2⟩ := s.x.allocOwn (u := .lst vs) hp
  exact k _ _ _ (.own (.lst ds)) x2 (s.S.trans S2) ⟨p, rfl, ⟨s.x.free0 hp, vs, upd_same, rs⟩, s.free hp, s.x.nowN hp⟩ q
theorem At.newD {ks : List Key} {ws : List (Key × V)} (s : At K b σ H0 Φ0 η0 H Φ η) (k : Cont K b σ H0 Φ0 η0 η Qd Qh) (hp : H p = none) (hk : ws.map (·.1) = ks) (rs : Rs K Φ ds (ws.map (·.2))) (q : Qd (.own (.dct ks ds))) : Qh (.ref p) (upd H p (.dK ws)) := by
  obtain ⟨x2, S2⟩ := s.x.allocOwn (u := .dK ws) hp
  exact k _ _ _ (.own (.dct ks ds)) x2 (s.S.trans S2) ⟨p, rfl, ⟨s.x.free0 hp, ws, upd_same, hk, rs⟩, s.free hp, s.x.nowN hp⟩ q
end

abbrev DO2 := D → D → (Rv → Prop) → Prop
abbrev DO1 := D → (Rv → Prop) → Prop
structure O2 (X : Cx) (b : Bs) (f : Value → Value → Sem Value) (rd : DO2) : Prop where
  ex : ∃ r : R2, OpR X f r ∧ ∀ σ H0 Φ0 η0 H Φ η d1 d2 v1 v2 Qd Qh, At X.K b σ H0 Φ0 η0 H Φ η → RdR X.K H Φ d1 v1 → RdR X.K H Φ d2 v2 → rd d1 d2 Qd → Cont X.K b σ H0 Φ0 η0 η Qd Qh → r v1 v2 H Qh
def dOp (rd : DO2) (ta tc : DTE) : DTE := fun η Q => ta η fun r1 η1 => tc η1 fun r2 η2 => rdQ r1 η2 fun d1 => rdQ r2 η2 fun d2 => rd d1 d2 fun r => Q r η2
section
variable {X : Cx} {b : Bs} {a c e : Expr} {ta tc : DTE} {pos : Pos}
theorem bin_can {r : R2} {f : Value → Value → Sem Value} {rd : DO2} {σ : L2.St} {H : Hp} {Q : VK}
    (hr : ∀ σ H0 Φ0 η0 H Φ η d1 d2 v1 v2 Qd Qh, At X.K b σ H0 Φ0 η0 H Φ η → RdR X.K H Φ d1 v1 → RdR X.K H Φ d2 v2 → rd d1 d2 Qd → Cont X.K b σ H0 Φ0 η0 η Qd Qh → r v1 v2 H Qh)
    (h : canE X.K b (dOp rd ta tc) σ H Q) : tOp r (canE X.K b ta) (canE X.K b tc) σ H Q := by
  obtain ⟨Φ, η, Qd, x, q, k⟩ := h
  refine ⟨Φ, η, _, x, q, fun v1 H1 Φ1 η1 r1 x1 S1 rv1 q1 => ?_⟩
  refine ⟨Φ1, η1, _, x1, q1, fun v2 H2 Φ2 η2 r2 x2 S2 rv2 q2 => ?_⟩
  obtain ⟨d1, rd1, q3⟩ := rd_ok x2 (S2.rv rv1) q2
  obtain ⟨d2, rd2, q4⟩ := rd_ok x2 rv2 q3
  exact hr σ H Φ η H2 Φ2 η2 d1 d2 v1 v2 _ Q ⟨x, x2, S1.trans S2⟩ rd1 rd2 q4 fun v H' Φ' r x' S' rv q => k v H' Φ' η2 r x' S' rv q
theorem de_op {op : Operator} {rd : DO2} (ho : O2 X b (binaryOp op) rd) (ha : DE X b a ta) (hc : DE X b c tc) : DE X b (.BinOp a op c pos) (dOp rd ta tc) := by
  obtain ⟨r, hr, hh⟩ := ho.ex
  exact ⟨pe_imp (pe_op hr ha.pe hc.pe) fun σ H Q h => bin_can (f := binaryOp op) hh h⟩

theorem or_op {f : Value → Value → Sem Value} {r r' : R2} (h : OpR X f r) (h' : OpR X f r') : OpR X f (fun x y H Q => r x y H Q ∨ r' x y H Q) := fun pins s σ H x y v u Q I rx ry q =>
  q.elim (h pins s σ H x y v u Q I rx ry) (h' pins s σ H x y v u Q I rx ry)

def addD : DO2
  | .int i, .int j, Q => Q (.fz (.int (i + j)))
  | .str s, .str t, Q => s.length + t.length ≤ sizeLine ∧ Q (.fz (.str (s ++ t)))
  | .lst a, .lst c, Q => a.length + c.length ≤ sizeLine ∧ Q (.own (.lst (a ++ c)))
  | .tup a, .tup c, Q => a.length + c.length ≤ sizeLine ∧ Q (.fz (.tup (a ++ c)))
  | _, _, _ => False
theorem o_add : O2 X b (binaryOp .Add) addD := by
  refine ⟨_, or_op op_add (or_op op_add_str (or_op op_cat op_catA)), ?_⟩
  intro σ H0 Φ0 η0 H Φ η d1 d2 v1 v2 Qd Qh s r1 r2 q k
  unfold addD at q
  split at q
  · obtain rfl := r1.int
    obtain rfl := r2.int
    exact .inl ⟨_, _, rfl, rfl, s.fz k (d := .int _) rfl q⟩
  · obtain rfl := r1.str
    obtain rfl := r2.str
    exact .inr (.inl ⟨_, _, rfl, rfl, q.1, s.fz k (d := .str _) rfl q.2⟩)
  · obtain ⟨p1, vs1, rfl, h1, rs1⟩ := r1.lst s.x.held
    obtain ⟨p2, vs2, rfl, h2, rs2⟩ := r2.lst s.x.held
    refine .inr (.inr (.inl ⟨p1, p2, vs1, vs2, rfl, rfl, h1, h2, by rw [← rs1.length, ← rs2.length]; exact q.1, fun p hp => s.newL k hp (rs1.app rs2) q.2⟩))
  · obtain ⟨p1, vs1, rfl, h1, f1, rs1⟩ := r1.tup s.x.held
    obtain ⟨p2, vs2, rfl, h2, f2, rs2⟩ := r2.tup s.x.held
    refine .inr (.inr (.inr ⟨p1, p2, vs1, vs2, rfl, rfl, h1, h2, by rw [← rs1.length, ← rs2.length]; exact q.1, fun e => ?_, fun _ e => ?_, fun _ _ p hp => s.newT k hp (rs1.app rs2) q.2⟩))
    · have z := rs1.length
      rw [e] at z
      have z2 := List.eq_nil_of_length_eq_zero z
      rw [z2, List.nil_append] at q
      exact s.fz k (d := .tup _) ⟨p2, vs2, rfl, f2, rs2⟩ q.2
    · have z := rs2.length
      rw [e] at z
      have z2 := List.eq_nil_of_length_eq_zero z
      rw [z2, List.append_nil] at q
      exact s.fz k (d := .tup _) ⟨p1, vs1, rfl, f1, rs1⟩ q.2
  · exact q.elim
def subD : DO2
  | .int i, .int j, Q => Q (.fz (.int (i - j)))
  | _, _, _ => False
theorem o_sub : O2 X b (binaryOp .Sub) subD := by
  refine ⟨_, op_sub, ?_⟩
  intro σ H0 Φ0 η0 H Φ η d1 d2 v1 v2 Qd Qh s r1 r2 q k
  unfold subD at q
  split at q
  · obtain rfl := r1.int
    obtain rfl := r2.int
    exact ⟨_, _, rfl, rfl, s.fz k (d := .int _) rfl q⟩
  · exact q.elim
theorem Rs.rep {ds : List D} {K : PySem.W.Frag} {Φ : Hp} {vs : List V} (rs : Rs K Φ ds vs) : ∀ n : Nat, Rs K Φ (List.replicate n ds).flatten (List.replicate n vs).flatten
  | 0 => rfl
  | n + 1 => by
    rw [List.replicate_succ, List.flatten_cons, List.replicate_succ, List.flatten_cons]
    exact rs.app (Rs.rep rs n)
/-- t * 1 is t itself -/
theorem tuple_one (l : Addr) (items : Array Value) (n : Nat) (dd : Option Addr) (sl : Array (Option Value)) (u : Tok) :
    Meets (Builtin.«tuple.__mul__» ⟨[.ref l, .int 1 u], []⟩) (fun _ R s => s.heap.get? l = some { cls := .type "tuple", dict := dd, data := .seq items n, slots := sl } ∧ R (.ok (.ret (Value.ref l))) s) :=
  .of_wp fun prog w A R s h => by
    obtain ⟨hp, g, d, tk, os⟩ := s
    obtain ⟨hl, h⟩ := h
    have f1 := AutoSeq1.idx_int
    have c0 : (decide ((1 : Int) < -(2 ^ 63)) || decide ((1 : Int) ≥ 2 ^ 63)) = false := by decide
    wp_walk using wpAny_loadPart' hl
    repeat (first
      | (refine wpAny_ite_false (decide_eq_false (by rw [c0]; exact Bool.false_ne_true)) ?_; wp_walk using wpAny_loadPart' hl)
      | (refine wpAny_ite_true (decide_eq_true (by simp)) ?_; wp_walk using wpAny_loadPart' hl))
    exact ⟨_, rfl, h⟩
def rRep1 (K : PySem.W.Frag) : R2 := fun x y H Q => ∃ l xs, x = .ref l ∧ y = .int 1 ∧ SqT K H l xs ∧ Q (.ref l) H
theorem op_rep1 : OpR X (binaryOp .Mult) (rRep1 X.K) := by
  intro pins s σ H x y v u Q I rx ry h
  obtain ⟨l, xs, rfl, rfl, hT, q⟩ := h
  cases rx
  obtain ⟨t, rfl⟩ := ry
  obtain ⟨its, r, ⟨⟨cls, dd, data, sl⟩, ho, hc, n, hd⟩, hs⟩ := I.tuple hT
  simp only at hc hd
  subst hc hd
  refine wpAny_binaryOp_repeat_ref (T := "tuple") (U := "int") (by decide) ⟨_, ho, rfl⟩ (fun s' => typeIs_int s' 1 t) noFill_tuple_mul F.fills_int_mul F.slot_int_rmul repeat_tuple F.slot_int_index.lookup
    (call_meets F.slot_int_rmul (typeIs_int s 1 t) F.entry_int_rmul (F.args_int_rmul_2 _ _) (int_rmul_tuple 1 t l its.toArray n dd sl)
      ⟨ho, rfl, ⟨_, ho, rfl⟩, call_meets F.slot_tuple_mul ⟨_, ho, rfl⟩ F.entry_tuple_mul (F.args_tuple_mul_2 _ _) (tuple_one l its.toArray n dd sl t) ⟨ho, ?_⟩⟩)
  exact ⟨.ref l, H, I, rfl, q⟩
theorem rep_one {α : Type} (l : List α) : (List.replicate (1 : Int).toNat l).flatten = l := List.append_nil l
def mulD : DO2
  | .int i, .int j, Q => (CMul i j ∨ CMulW i j) ∧ Q (.fz (.int (i * j)))
  | .lst a, .int k, Q => (-(2 ^ 63) ≤ k ∧ k < 2 ^ 63) ∧ a.length * k.toNat ≤ sizeLine ∧ Q (.own (.lst (List.replicate k.toNat a).flatten))
  | .tup a, .int k, Q => (a ≠ [] ∧ 1 ≤ k ∧ k ≤ 1000 ∧ a.length ≤ 1000) ∧ Q (.fz (.tup (List.replicate k.toNat a).flatten))
  | _, _, _ => False
theorem o_mul : O2 X b (binaryOp .Mult) mulD := by
  refine ⟨_, or_op op_mul (or_op op_mulW (or_op op_rep (or_op op_rep1 op_repT))), ?_⟩
  intro σ H0 Φ0 η0 H Φ η d1 d2 v1 v2 Qd Qh s r1 r2 q k
  unfold mulD at q
  split at q
  · obtain rfl := r1.int
    obtain rfl := r2.int
    rcases q with ⟨c | c, q⟩
    · exact .inl ⟨_, _, rfl, rfl, c, s.fz k (d := .int _) rfl q⟩
    · exact .inr (.inl ⟨_, _, rfl, rfl, c, s.fz k (d := .int _) rfl q⟩)
  · obtain ⟨p1, vs1, rfl, h1, rs1⟩ := r1.lst s.x.held
    obtain rfl := r2.int
    exact .inr (.inr (.inl ⟨p1, _, vs1, rfl, rfl, h1, q.1.1, q.1.2, by rw [← rs1.length]; exact q.2.1, fun p hp => s.newL k hp (rs1.rep _) q.2.2⟩))
  · obtain ⟨p1, vs1, rfl, h1, f1, rs1⟩ := r1.tup s.x.held
    obtain rfl := r2.int
    rename_i k'
    by_cases e1 : k' = 1
    · subst e1
      refine .inr (.inr (.inr (.inl ⟨p1, vs1, rfl, rfl, h1, ?_⟩)))
      rw [rep_one] at q
      exact s.fz k (d := .tup _) ⟨p1, vs1, rfl, f1, rs1⟩ q.2
    · have k1 := q.1.2.1
      refine .inr (.inr (.inr (.inr ⟨p1, _, vs1, rfl, rfl, h1, fun e => q.1.1 ?_, by omega, q.1.2.2.1, by rw [← rs1.length]; exact q.1.2.2.2, fun p hp => s.newT k hp (rs1.rep _) q.2⟩)))
      have z := rs1.length
      rw [e] at z
      exact List.eq_nil_of_length_eq_zero z
  · exact q.elim
def fdivD : DO2
  | .int i, .int j, Q => CDivW i j ∧ Q (.fz (.int (i / j)))
  | _, _, _ => False
theorem o_fdiv : O2 X b (binaryOp .FloorDiv) fdivD := by
  refine ⟨_, op_fdivW, ?_⟩
  intro σ H0 Φ0 η0 H Φ η d1 d2 v1 v2 Qd Qh s r1 r2 q k
  unfold fdivD at q
  split at q
  · obtain rfl := r1.int
    obtain rfl := r2.int
    exact ⟨_, _, rfl, rfl, q.1, s.fz k (d := .int _) rfl q.2⟩
  · exact q.elim
def modD : DO2
  | .int i, .int j, Q => 0 < j ∧ Q (.fz (.int (i % j)))
  | _, _, _ => False
theorem o_mod : O2 X b (binaryOp .Mod) modD := by
  refine ⟨_, op_mod, ?_⟩
  intro σ H0 Φ0 η0 H Φ η d1 d2 v1 v2 Qd Qh s r1 r2 q k
  unfold modD at q
  split at q
  · obtain rfl := r1.int
    obtain rfl := r2.int
    exact ⟨_, _, rfl, rfl, q.1, s.fz k (d := .int _) rfl q.2⟩
  · exact q.elim
def powD : DO2
  | .int i, .int j, Q => CPow i j ∧ Q (.fz (.int (i ^ j.toNat)))
  | _, _, _ => False
theorem o_pow : O2 X b (binaryOp .Pow) powD := by
  refine ⟨_, op_pow, ?_⟩
  intro σ H0 Φ0 η0 H Φ η d1 d2 v1 v2 Qd Qh s r1 r2 q k
  unfold powD at q
  split at q
  · obtain rfl := r1.int
    obtain rfl := r2.int
    exact ⟨_, _, rfl, rfl, q.1, s.fz k (d := .int _) rfl q.2⟩
  · exact q.elim
/-- -n -/
def negD : DO1
  | .int i, Q => Q (.fz (.int (-i)))
  | _, _ => False
def dUn (rd : DO1) (ta : DTE) : DTE := fun η Q => ta η fun r1 η1 => rdQ r1 η1 fun d1 => rd d1 fun r => Q r η1
theorem de_neg (ha : DE X b a ta) : DE X b (.UnaryOp .USub a pos) (dUn negD ta) := by
  refine ⟨pe_imp (pe_un un_neg ha.pe) fun σ H Q h => ?_⟩
  obtain ⟨Φ, η, Qd, x, q, k⟩ := h
  refine ⟨Φ, η, _, x, q, fun v1 H1 Φ1 η1 r1 x1 S1 rv1 q1 => ?_⟩
  obtain ⟨d1, rd1, q3⟩ := rd_ok x1 rv1 q1
  unfold negD at q3
  split at q3
  · obtain rfl := rd1.int
    exact ⟨_, rfl, k _ H1 Φ1 η1 (.fz (.int _)) x1 S1 rfl q3⟩
  · exact q3.elim
end
end DL

set_option Elab.async false
set_option linter.all false
set_option maxRecDepth 100000
namespace DL
open PySem PySem.Spec PyProof.Rows L2 LamX

mutual
def py : D → PyData
  | .non => .none
  | .bl b => .bool b
  | .int i => .int i
  | .str s => .str s
  | .tup ds => .tuple (pys ds)
  | .lst ds => .list (pys ds)
  | .rol ds => .list (pys ds)
  | .dct _ _ => .dict []
def pys : List D → List PyData
  | [] => []
  | d :: ds => py d :: pys ds
end
def okD (d : D) : Prop := SeqAt.shaped (py d) = true
def eqD (d e : D) : Bool := PyData.eqv (py d) (py e)
section
variable {K : PySem.W.Frag} {H : Hp}
mutual
theorem R.dp : ∀ {d : D} {v : V}, R K H d v → (py d).canLay0 = true → Dp K H v (py d)
  | .non, v, r, _ => by rw [show v = .non from r]; exact .non
  | .bl b, v, r, _ => by rw [show v = .bl b from r]; exact .bl b
  | .int i, v, r, _ => by rw [show v = .int i from r]; exact .int i
  | .str s, v, r, _ => by rw [show v = .str s from r]; exact .str s
  | .tup ds, v, r, h => by
    obtain ⟨a, vs, e, s, q⟩ := r
    rw [e]
    exact .tup s (Rs.dp q h)
  | .lst ds, v, r, h => by
    obtain ⟨a, vs, e, s, q⟩ := r
    rw [e]
    exact .lst (.inl (.inl s)) (Rs.dp q h)
  | .rol ds, v, r, h => by
    obtain ⟨a, vs, e, s, q⟩ := r
    rw [e]
    exact .lst s (Rs.dp q h)
  | .dct ks ds, v, r, h => by cases h
theorem Rs.dp : ∀ {ds : List D} {vs : List V}, Rs K H ds vs → PyData.canLayAll0 (pys ds) = true → DpAll K H vs (pys ds)
  | [], vs, r, _ => by rw [show vs = [] from r]; exact .nil
  | d :: ds, vs, r, h => by
    obtain ⟨v, rr, e, h1, h2⟩ := r
    rw [e]
    have h' : (py d).canLay0 = true ∧ PyData.canLayAll0 (pys ds) = true := by simpa [pys, PyData.canLayAll0] using h
    exact .cons (R.dp h1 h'.1) (Rs.dp h2 h'.2)
end
theorem R.dp' {d : D} {v : V} (r : R K H d v) (h : okD d) : Dp K H v (py d) := r.dp (SeqAt.canLay_of_shaped h)
end

abbrev DC2 := D → D → (Bool → Prop) → Prop
structure C2 (X : Cx) (b : Bs) (op : CmpOp) (rd : DC2) : Prop where
  ex : ∃ r : R2, OpR X (compareOp op) r ∧ ∀ H Φ d1 d2 v1 v2 (Qd : Bool → Prop) (Qh : VK), Same Φ H → RdR X.K H Φ d1 v1 → RdR X.K H Φ d2 v2 → rd d1 d2 Qd → (∀ k, Qd k → Qh (.bl k) H) → r v1 v2 H Qh
def dCmp (rd : DC2) (ta tc : DTE) : DTE := fun η Q => ta η fun r1 η1 => tc η1 fun r2 η2 => rdQ r1 η2 fun d1 => rdQ r2 η2 fun d2 => rd d1 d2 fun k => Q (.fz (.bl k)) η2
def dCmpT (rd : DC2) (ta tc : DTE) : DTT := fun η Q => ta η fun r1 η1 => tc η1 fun r2 η2 => rdQ r1 η2 fun d1 => rdQ r2 η2 fun d2 => rd d1 d2 fun k => Q k η2
def dChain (rd rd' : DC2) (ta tc te : DTE) : DTE := fun η Q => ta η fun r1 η1 => tc η1 fun r2 η2 => rdQ r1 η2 fun d1 => rdQ r2 η2 fun d2 => rd d1 d2 fun k =>
  if k = true then te η2 fun r3 η3 => rdQ r2 η3 fun d2' => rdQ r3 η3 fun d3 => rd' d2' d3 fun k' => Q (.fz (.bl k')) η3 else Q (.fz (.bl false)) η2
def dChainT (rd rd' : DC2) (ta tc te : DTE) : DTT := fun η Q => ta η fun r1 η1 => tc η1 fun r2 η2 => rdQ r1 η2 fun d1 => rdQ r2 η2 fun d2 => rd d1 d2 fun k =>
  if k = true then te η2 fun r3 η3 => rdQ r2 η3 fun d2' => rdQ r3 η3 fun d3 => rd' d2' d3 fun k' => Q k' η3 else Q false η2
section
variable {X : Cx} {b : Bs} {a c e : Expr} {ta tc te : DTE} {tt tu : DTT} {pos : Pos} {rest : List Expr}
theorem de_cmp {op : CmpOp} {rd : DC2} (ho : C2 X b op rd) (ha : DE X b a ta) (hc : DE X b c tc) (hm : behindInMarks op c = false := by first | exact nobehind _ (by decide) (by decide) | rfl) : DE X b (.Compare a [op] [c] pos) (dCmp rd ta tc) := by
  obtain ⟨r, hr, hh⟩ := ho.ex
  refine ⟨pe_imp (pe_cmpR hr ha.pe hc.pe hm) fun σ H Q h => ?_⟩
  obtain ⟨Φ, η, Qd, x, q, k⟩ := h
  refine ⟨Φ, η, _, x, q, fun v1 H1 Φ1 η1 r1 x1 S1 rv1 q1 => ?_⟩
  refine ⟨Φ1, η1, _, x1, q1, fun v2 H2 Φ2 η2 r2 x2 S2 rv2 q2 => ?_⟩
  obtain ⟨d1, rd1, q3⟩ := rd_ok x2 (S2.rv rv1) q2
  obtain ⟨d2, rd2, q4⟩ := rd_ok x2 rv2 q3
  exact hh H2 Φ2 d1 d2 v1 v2 _ Q x2.held rd1 rd2 q4 fun kk q => k (.bl kk) H2 Φ2 η2 (.fz (.bl kk)) x2 (S1.trans S2) rfl q
theorem dt_cmp {op : CmpOp} {rd : DC2} (ho : C2 X b op rd) (ha : DE X b a ta) (hc : DE X b c tc) (hm : behindInMarks op c = false := by first | exact nobehind _ (by decide) (by decide) | rfl) : DT X b (.Compare a [op] [c] pos) (dCmpT rd ta tc) := by
  obtain ⟨r, hr, hh⟩ := ho.ex
  refine ⟨pt_imp (pt_cmpR hr ha.pe hc.pe hm) fun σ H Q h => ?_⟩
  obtain ⟨Φ, η, Qd, x, q, k⟩ := h
  refine ⟨Φ, η, _, x, q, fun v1 H1 Φ1 η1 r1 x1 S1 rv1 q1 => ?_⟩
  refine ⟨Φ1, η1, _, x1, q1, fun v2 H2 Φ2 η2 r2 x2 S2 rv2 q2 => ?_⟩
  obtain ⟨d1, rd1, q3⟩ := rd_ok x2 (S2.rv rv1) q2
  obtain ⟨d2, rd2, q4⟩ := rd_ok x2 rv2 q3
  exact hh H2 Φ2 d1 d2 v1 v2 _ _ x2.held rd1 rd2 q4 fun kk q => ⟨kk, rfl, k kk H2 Φ2 η2 x2 (S1.trans S2) q⟩
theorem chain_can {r r' : R2} {rd rd' : DC2} {σ : L2.St} {H : Hp} {Q : VK} {Φ : Hp} {η : En} {Qd : Bool → En → Prop}
    (hh : ∀ H Φ d1 d2 v1 v2 (Qd : Bool → Prop) (Qh : VK), Same Φ H → RdR X.K H Φ d1 v1 → RdR X.K H Φ d2 v2 → rd d1 d2 Qd → (∀ k, Qd k → Qh (.bl k) H) → r v1 v2 H Qh)
    (hh' : ∀ H Φ d1 d2 v1 v2 (Qd : Bool → Prop) (Qh : VK), Same Φ H → RdR X.K H Φ d1 v1 → RdR X.K H Φ d2 v2 → rd' d1 d2 Qd → (∀ k, Qd k → Qh (.bl k) H) → r' v1 v2 H Qh)
    (x : Rep X.K b σ H Φ η) (q : dChainT rd rd' ta tc te η Qd) (k : ∀ k H' Φ' η', Rep X.K b σ H' Φ' η' → Stp σ H Φ η H' Φ' η' → Qd k η' → Q (.bl k) H') : tChain r r' (canE X.K b ta) (canE X.K b tc) (canE X.K b te) σ H Q := by
  refine ⟨Φ, η, _, x, q, fun v1 H1 Φ1 η1 r1 x1 S1 rv1 q1 => ?_⟩
  refine ⟨Φ1, η1, _, x1, q1, fun v2 H2 Φ2 η2 r2 x2 S2 rv2 q2 => ?_⟩
  obtain ⟨d1, rd1, q3⟩ := rd_ok x2 (S2.rv rv1) q2
  obtain ⟨d2, rd2, q4⟩ := rd_ok x2 rv2 q3
  refine hh H2 Φ2 d1 d2 v1 v2 _ _ x2.held rd1 rd2 q4 fun kk q => ⟨kk, rfl, ?_⟩
  cases kk with
  | false =>
    rw [if_neg Bool.false_ne_true] at q ⊢
    exact k false H2 Φ2 η2 x2 (S1.trans S2) q
  | true =>
    rw [if_pos rfl] at q ⊢
    refine ⟨Φ2, η2, _, x2, q, fun v3 H3 Φ3 η3 r3 x3 S3 rv3 q5 => ?_⟩
    obtain ⟨d2', rd2', q6⟩ := rd_ok x3 (S3.rv rv2) q5
    obtain ⟨d3, rd3, q7⟩ := rd_ok x3 rv3 q6
    exact hh' H3 Φ3 d2' d3 v2 v3 _ Q x3.held rd2' rd3 q7 fun kk q => k kk H3 Φ3 η3 x3 ((S1.trans S2).trans S3) q
theorem chain_eq {rd rd' : DC2} {η : En} {Q : Rv → En → Prop} (h : dChain rd rd' ta tc te η Q) : dChainT rd rd' ta tc te η (fun k => Q (.fz (.bl k))) := h
theorem de_chain {op op' : CmpOp} {rd rd' : DC2} (ho : C2 X b op rd) (ho' : C2 X b op' rd') (ha : DE X b a ta) (hc : DE X b c tc) (he : DE X b e te) (hm : lastMarks [op, op'] [c, e] = false := by with_unfolding_all rfl) :
    DE X b (.Compare a [op, op'] [c, e] pos) (dChain rd rd' ta tc te) := by
  obtain ⟨r, hr, hh⟩ := ho.ex
  obtain ⟨r', hr', hh'⟩ := ho'.ex
  refine ⟨pe_imp (pe_chain hr hr' ha.pe hc.pe he.pe hm) fun σ H Q h => ?_⟩
  obtain ⟨Φ, η, Qd, x, q, k⟩ := h
  exact chain_can hh hh' x q fun kk H' Φ' η' x' S' q' => k (.bl kk) H' Φ' η' (.fz (.bl kk)) x' S' rfl q'
theorem dt_chain {op op' : CmpOp} {rd rd' : DC2} (ho : C2 X b op rd) (ho' : C2 X b op' rd') (ha : DE X b a ta) (hc : DE X b c tc) (he : DE X b e te) (hm : lastMarks [op, op'] [c, e] = false := by with_unfolding_all rfl) :
    DT X b (.Compare a [op, op'] [c, e] pos) (dChainT rd rd' ta tc te) := by
  obtain ⟨r, hr, hh⟩ := ho.ex
  obtain ⟨r', hr', hh'⟩ := ho'.ex
  refine ⟨pt_imp (pt_chain hr hr' ha.pe hc.pe he.pe hm) fun σ H Q h => ?_⟩
  obtain ⟨Φ, η, Qd, x, q, k⟩ := h
  exact chain_can hh hh' x q fun kk H' Φ' η' x' S' q' => ⟨kk, rfl, k kk H' Φ' η' x' S' q'⟩

def ltD : DC2
  | .int i, .int j, Q => Q (decide (i < j))
  | .str s, .str t, Q => Q (decide (s.cps.toList < t.cps.toList))
  | _, _, _ => False
def leD : DC2
  | .int i, .int j, Q => Q (decide (i ≤ j))
  | _, _, _ => False
def gtD : DC2
  | .int i, .int j, Q => Q (decide (j < i))
  | _, _, _ => False
def geD : DC2
  | .int i, .int j, Q => Q (decide (j ≤ i))
  | _, _, _ => False
theorem c_lt : C2 X b .Lt ltD := by
  refine ⟨_, or_op op_lt op_lt_str, fun H Φ d1 d2 v1 v2 Qd Qh le r1 r2 q k => ?_⟩
  unfold ltD at q
  split at q
  · obtain rfl := r1.int
    obtain rfl := r2.int
    exact .inl ⟨_, _, rfl, rfl, k _ q⟩
  · obtain rfl := r1.str
    obtain rfl := r2.str
    exact .inr ⟨_, _, rfl, rfl, k _ q⟩
  · exact q.elim
theorem c_le : C2 X b .LtE leD := by
  refine ⟨_, op_le, fun H Φ d1 d2 v1 v2 Qd Qh le r1 r2 q k => ?_⟩
  unfold leD at q
  split at q
  · obtain rfl := r1.int
    obtain rfl := r2.int
    exact ⟨_, _, rfl, rfl, k _ q⟩
  · exact q.elim
theorem c_gt : C2 X b .Gt gtD := by
  refine ⟨_, op_gt, fun H Φ d1 d2 v1 v2 Qd Qh le r1 r2 q k => ?_⟩
  unfold gtD at q
  split at q
  · obtain rfl := r1.int
    obtain rfl := r2.int
    exact ⟨_, _, rfl, rfl, k _ q⟩
  · exact q.elim
theorem c_ge : C2 X b .GtE geD := by
  refine ⟨_, op_ge, fun H Φ d1 d2 v1 v2 Qd Qh le r1 r2 q k => ?_⟩
  unfold geD at q
  split at q
  · obtain rfl := r1.int
    obtain rfl := r2.int
    exact ⟨_, _, rfl, rfl, k _ q⟩
  · exact q.elim
def eqQ : DC2 := fun d e Q => okD d ∧ okD e ∧ Q (eqD d e)
def neQ : DC2 := fun d e Q => okD d ∧ okD e ∧ Q (!eqD d e)
theorem c_eq (hu : X.A.units + 64 < cLine) : C2 X b .Eq eqQ :=
  ⟨_, op_eqD hu, fun H Φ d1 d2 v1 v2 Qd Qh le r1 r2 q k => ⟨py d1, py d2, (r1.whole le).dp' q.1, (r2.whole le).dp' q.2.1, q.1, q.2.1, k _ q.2.2⟩⟩
theorem c_ne (hu : X.A.units + 64 < cLine) : C2 X b .NotEq neQ :=
  ⟨_, op_neD hu, fun H Φ d1 d2 v1 v2 Qd Qh le r1 r2 q k => ⟨py d1, py d2, (r1.whole le).dp' q.1, (r2.whole le).dp' q.2.1, q.1, q.2.1, k _ q.2.2⟩⟩
def inDs (d : D) (ds : List D) : Bool := ds.any fun z => eqD z d
def inQ : DC2
  | d, .lst ds, Q => okD d ∧ okD (.lst ds) ∧ Q (inDs d ds)
  | _, _, _ => False
def ninQ : DC2
  | d, .lst ds, Q => okD d ∧ okD (.lst ds) ∧ Q (!inDs d ds)
  | _, _, _ => False
theorem any_pys (d : D) : ∀ ds : List D, (pys ds).any (fun z => PyData.eqv z (py d)) = inDs d ds
  | [] => rfl
  | e :: ds => by
    show (PyData.eqv (py e) (py d) || (pys ds).any _) = (eqD e d || inDs d ds)
    rw [any_pys d ds]; rfl
theorem c_in (hu : X.A.units + 65 < cLine) : C2 X b .In inQ := by
  refine ⟨_, op_inD hu, fun H Φ d1 d2 v1 v2 Qd Qh le r1 r2 q k => ?_⟩
  unfold inQ at q
  split at q
  · exact ⟨py d1, _, (r1.whole le).dp' q.1, (r2.whole le).dp' q.2.1, q.1, q.2.1, by rw [any_pys]; exact k _ q.2.2⟩
  · exact q.elim
theorem c_nin (hu : X.A.units + 65 < cLine) : C2 X b .NotIn ninQ := by
  refine ⟨_, op_notInD hu, fun H Φ d1 d2 v1 v2 Qd Qh le r1 r2 q k => ?_⟩
  unfold ninQ at q
  split at q
  · exact ⟨py d1, _, (r1.whole le).dp' q.1, (r2.whole le).dp' q.2.1, q.1, q.2.1, by rw [any_pys]; exact k _ q.2.2⟩
  · exact q.elim
def isN : D → Bool
  | .non => true
  | _ => false
def isQ : DC2
  | d, .non, Q => Q (isN d)
  | .bl x, .bl y, Q => Q (decide (x = y))
  | _, _, _ => False
def nisQ : DC2
  | d, .non, Q => Q (!isN d)
  | _, _, _ => False
theorem R.isN {K : PySem.W.Frag} {Φ : Hp} {d : D} {v : V} (r : R K Φ d v) : decide (v = V.non) = isN d := by
  cases d with
  | non => rw [show v = .non from r]; rfl
  | bl b => rw [show v = .bl b from r]; rfl
  | int i => rw [show v = .int i from r]; rfl
  | str s => rw [show v = .str s from r]; rfl
  | tup ds => obtain ⟨a, vs, e, _⟩ := r; rw [e]; rfl
  | lst ds => obtain ⟨a, vs, e, _⟩ := r; rw [e]; rfl
  | rol ds => obtain ⟨a, vs, e, _⟩ := r; rw [e]; rfl
  | dct ks ds => obtain ⟨a, vs, e, _⟩ := r; rw [e]; rfl
theorem c_nis : C2 X b .IsNot nisQ := by
  refine ⟨_, op_notN, fun H Φ d1 d2 v1 v2 Qd Qh le r1 r2 q k => ?_⟩
  unfold nisQ at q
  split at q
  · obtain rfl := r2.non
    exact ⟨rfl, by rw [(r1.whole le).isN]; exact k _ q⟩
  · exact q.elim
theorem c_is : C2 X b .Is isQ := by
  refine ⟨_, or_op op_isN op_isBl, fun H Φ d1 d2 v1 v2 Qd Qh le r1 r2 q k => ?_⟩
  unfold isQ at q
  split at q
  · obtain rfl := r2.non
    exact .inl ⟨rfl, by rw [(r1.whole le).isN]; exact k _ q⟩
  · obtain rfl := r1.bl
    obtain rfl := r2.bl
    exact .inr ⟨_, _, rfl, rfl, k _ q⟩
  · exact q.elim
end
end DL

set_option Elab.async false
set_option linter.all false
set_option maxRecDepth 100000
namespace DL
open PySem PySem.Spec PyProof.Rows L2 LamX
section
variable {X : Cx} {b : Bs} {a c e : Expr} {ta tc te : DTE} {tt tu : DTT} {tA : DTA} {pos p : Pos} {rest : List Expr}
def truQ : D → (Bool → Prop) → Prop
  | .non, Q => Q false
  | .bl k, Q => Q k
  | .int i, Q => Q (i != 0)
  | .str s, Q => s.length ≤ sizeLine ∧ Q ((s.length : Int) != 0)
  | .tup ds, Q => Q (!ds.isEmpty)
  | .lst ds, Q => Q (!ds.isEmpty)
  | .rol ds, Q => Q (!ds.isEmpty)
  | .dct ks _, Q => Q (!ks.isEmpty)
def dTru (ta : DTE) : DTT := fun η Q => ta η fun r η1 => rdQ r η1 fun d => truQ d fun k => Q k η1
theorem Rs.emp {K : PySem.W.Frag} {Φ : Hp} {ds : List D} {vs : List V} (r : Rs K Φ ds vs) : ds.isEmpty = vs.isEmpty := by
  cases ds with
  | nil => rw [show vs = [] from r]; rfl
  | cons d ds => obtain ⟨v, rr, e, _⟩ := r; rw [e]; rfl
theorem truQ_ok {K : PySem.W.Frag} {H Φ : Hp} {d : D} {v : V} {Q : Bool → Prop} (le : Same Φ H) (r : RdR K H Φ d v) (q : truQ d Q) : ∃ k, TruV K v H k ∧ Q k := by
  cases d with
  | non => obtain rfl := r.non; exact ⟨_, rfl, q⟩
  | bl k => obtain rfl := r.bl; exact ⟨_, rfl, q⟩
  | int i => obtain rfl := r.int; exact ⟨_, rfl, q⟩
  | str s => obtain rfl := r.str; exact ⟨_, ⟨q.1, rfl⟩, q.2⟩
  | tup ds =>
    obtain ⟨a, vs, rfl, h, _, rs⟩ := r.tup le
    exact ⟨_, .inr (.inl ⟨vs, h, rfl⟩), by rw [← rs.emp]; exact q⟩
  | lst ds =>
    obtain ⟨a, vs, rfl, h, rs⟩ := r.lst le
    exact ⟨_, .inl ⟨vs, .inl (.inl h), rfl⟩, by rw [← rs.emp]; exact q⟩
  | rol ds =>
    obtain ⟨a, vs, rfl, h, _, rs⟩ := r.rol le
    exact ⟨_, .inl ⟨vs, h, rfl⟩, by rw [← rs.emp]; exact q⟩
  | dct ks ds =>
    obtain ⟨a, ws, rfl, h, hk, rs⟩ := r.dct le
    refine ⟨_, .inr (.inr ⟨ws, h, rfl⟩), ?_⟩
    have e : ws.isEmpty = ks.isEmpty := by rw [← hk]; cases ws <;> rfl
    rw [e]; exact q
theorem dt_e (ha : DE X b a ta) (he : ∀ whole, isTrue a X.env whole = (do let v ← whole; standAt a.pos; holding [v] (truthy v)) := by intro _; rfl) : DT X b a (dTru ta) := by
  refine ⟨pt_imp (pt_truth ha.pe he) fun σ H Q h => ?_⟩
  obtain ⟨Φ, η, Qd, x, q, k⟩ := h
  refine ⟨Φ, η, _, x, q, fun v1 H1 Φ1 η1 r1 x1 S1 rv1 q1 => ?_⟩
  obtain ⟨d1, rd1, q3⟩ := rd_ok x1 rv1 q1
  obtain ⟨kk, tv, q4⟩ := truQ_ok x1.held rd1 q3
  exact ⟨kk, tv, k kk H1 Φ1 η1 x1 S1 q4⟩
def dAnd (t u : DTT) : DTT := fun η Q => t η fun k η1 => if k = true then u η1 Q else Q false η1
def dOr (t u : DTT) : DTT := fun η Q => t η fun k η1 => if k = true then Q true η1 else u η1 Q
def dNot (t : DTT) : DTT := fun η Q => t η fun k η1 => Q (!k) η1
theorem dw_and1 (ha : DT X b a tt) : DW X b (.BoolOp .And [a] pos) tt := ⟨pw_and1 ha.pt⟩
theorem dw_or1 (ha : DT X b a tt) : DW X b (.BoolOp .Or [a] pos) tt := ⟨pw_or1 ha.pt⟩
theorem dw_and (ha : DT X b a tt) (hc : DW X b (.BoolOp .And (c :: rest) pos) tu) : DW X b (.BoolOp .And (a :: c :: rest) pos) (dAnd tt tu) := by
  refine ⟨pw_imp (pw_and ha.pt hc.pw) fun σ H Q h => ?_⟩
  obtain ⟨Φ, η, Qd, x, q, k⟩ := h
  refine ⟨Φ, η, _, x, q, fun kk H1 Φ1 η1 x1 S1 q1 => ?_⟩
  cases kk with
  | true => rw [if_pos rfl] at q1 ⊢; exact ⟨Φ1, η1, _, x1, q1, fun k2 H2 Φ2 η2 x2 S2 q2 => k k2 H2 Φ2 η2 x2 (S1.trans S2) q2⟩
  | false => rw [if_neg Bool.false_ne_true] at q1 ⊢; exact k false H1 Φ1 η1 x1 S1 q1
theorem dw_or (ha : DT X b a tt) (hc : DW X b (.BoolOp .Or (c :: rest) pos) tu) : DW X b (.BoolOp .Or (a :: c :: rest) pos) (dOr tt tu) := by
  refine ⟨pw_imp (pw_or ha.pt hc.pw) fun σ H Q h => ?_⟩
  obtain ⟨Φ, η, Qd, x, q, k⟩ := h
  refine ⟨Φ, η, _, x, q, fun kk H1 Φ1 η1 x1 S1 q1 => ?_⟩
  cases kk with
  | true => rw [if_pos rfl] at q1 ⊢; exact k true H1 Φ1 η1 x1 S1 q1
  | false => rw [if_neg Bool.false_ne_true] at q1 ⊢; exact ⟨Φ1, η1, _, x1, q1, fun k2 H2 Φ2 η2 x2 S2 q2 => k k2 H2 Φ2 η2 x2 (S1.trans S2) q2⟩
theorem dt_w (h : DW X b e tt) : DT X b e tt := ⟨h.pw.pt⟩
theorem dt_not (ha : DT X b a tt) : DT X b (.UnaryOp .Not a pos) (dNot tt) := by
  refine ⟨pt_imp (pt_not ha.pt) fun σ H Q h => ?_⟩
  obtain ⟨Φ, η, Qd, x, q, k⟩ := h
  exact ⟨Φ, η, _, x, q, fun kk H1 Φ1 η1 x1 S1 q1 => k _ H1 Φ1 η1 x1 S1 q1⟩
def blQ : D → (Bool → Prop) → Prop
  | .bl k, Q => Q k
  | _, _ => False
theorem blQ_ok {K : PySem.W.Frag} {H Φ : Hp} {d : D} {v : V} {Q : Bool → Prop} (r : RdR K H Φ d v) (q : blQ d Q) : ∃ k, v = .bl k ∧ Q k := by
  unfold blQ at q
  split at q
  · exact ⟨_, r.bl, q⟩
  · exact q.elim
def dAndV (ta tc : DTE) : DTE := fun η Q => ta η fun r η1 => rdQ r η1 fun d => blQ d fun k => if k = true then tc η1 Q else Q (.fz (.bl false)) η1
def dOrV (ta tc : DTE) : DTE := fun η Q => ta η fun r η1 => rdQ r η1 fun d => blQ d fun k => if k = true then Q (.fz (.bl true)) η1 else tc η1 Q
def dNotV (ta : DTE) : DTE := fun η Q => ta η fun r η1 => rdQ r η1 fun d => blQ d fun k => Q (.fz (.bl (!k))) η1
theorem de_one {op} (ha : DE X b a ta) : DE X b (.BoolOp op [a] pos) ta := ⟨pe_one ha.pe⟩
theorem de_and (ha : DE X b a ta) (hc : DE X b (.BoolOp .And (c :: rest) pos) tc) : DE X b (.BoolOp .And (a :: c :: rest) pos) (dAndV ta tc) := by
  refine ⟨pe_imp (pe_and ha.pe hc.pe) fun σ H Q h => ?_⟩
  obtain ⟨Φ, η, Qd, x, q, k⟩ := h
  refine ⟨Φ, η, _, x, q, fun v1 H1 Φ1 η1 r1 x1 S1 rv1 q1 => ?_⟩
  obtain ⟨d1, rd1, q3⟩ := rd_ok x1 rv1 q1
  obtain ⟨kk, e, q4⟩ := blQ_ok rd1 q3
  refine ⟨kk, e, ?_⟩
  cases kk with
  | true => rw [if_pos rfl] at q4 ⊢; exact ⟨Φ1, η1, _, x1, q4, fun v2 H2 Φ2 η2 r2 x2 S2 rv2 q2 => k v2 H2 Φ2 η2 r2 x2 (S1.trans S2) (rv2.back S1.trk) q2⟩
  | false => rw [if_neg Bool.false_ne_true] at q4 ⊢; exact k _ H1 Φ1 η1 (.fz (.bl false)) x1 S1 rfl q4
theorem de_or (ha : DE X b a ta) (hc : DE X b (.BoolOp .Or (c :: rest) pos) tc) : DE X b (.BoolOp .Or (a :: c :: rest) pos) (dOrV ta tc) := by
  refine ⟨pe_imp (pe_or ha.pe hc.pe) fun σ H Q h => ?_⟩
  obtain ⟨Φ, η, Qd, x, q, k⟩ := h
  refine ⟨Φ, η, _, x, q, fun v1 H1 Φ1 η1 r1 x1 S1 rv1 q1 => ?_⟩
  obtain ⟨d1, rd1, q3⟩ := rd_ok x1 rv1 q1
  obtain ⟨kk, e, q4⟩ := blQ_ok rd1 q3
  refine ⟨kk, e, ?_⟩
  cases kk with
  | true => rw [if_pos rfl] at q4 ⊢; exact k _ H1 Φ1 η1 (.fz (.bl true)) x1 S1 rfl q4
  | false => rw [if_neg Bool.false_ne_true] at q4 ⊢; exact ⟨Φ1, η1, _, x1, q4, fun v2 H2 Φ2 η2 r2 x2 S2 rv2 q2 => k v2 H2 Φ2 η2 r2 x2 (S1.trans S2) (rv2.back S1.trk) q2⟩
theorem de_not (ha : DE X b a ta) : DE X b (.UnaryOp .Not a pos) (dNotV ta) := by
  refine ⟨pe_imp (pe_not ha.pe) fun σ H Q h => ?_⟩
  obtain ⟨Φ, η, Qd, x, q, k⟩ := h
  refine ⟨Φ, η, _, x, q, fun v1 H1 Φ1 η1 r1 x1 S1 rv1 q1 => ?_⟩
  obtain ⟨d1, rd1, q3⟩ := rd_ok x1 rv1 q1
  obtain ⟨kk, e, q4⟩ := blQ_ok rd1 q3
  exact ⟨kk, e, k _ H1 Φ1 η1 (.fz (.bl (!kk))) x1 S1 rfl q4⟩
def dIf (t : DTT) (ta tc : DTE) : DTE := fun η Q => t η fun k η1 => if k = true then ta η1 Q else tc η1 Q
theorem de_if (ht : DT X b e tt) (ha : DE X b a ta) (hc : DE X b c tc) : DE X b (.IfExp e a c pos) (dIf tt ta tc) := by
  refine ⟨pe_imp (pe_ifExp ht.pt ha.pe hc.pe) fun σ H Q h => ?_⟩
  obtain ⟨Φ, η, Qd, x, q, k⟩ := h
  refine ⟨Φ, η, _, x, q, fun kk H1 Φ1 η1 x1 S1 q1 => ?_⟩
  cases kk with
  | true => rw [if_pos rfl] at q1 ⊢; exact ⟨Φ1, η1, _, x1, q1, fun v2 H2 Φ2 η2 r2 x2 S2 rv2 q2 => k v2 H2 Φ2 η2 r2 x2 (S1.trans S2) (rv2.back S1.trk) q2⟩
  | false => rw [if_neg Bool.false_ne_true] at q1 ⊢; exact ⟨Φ1, η1, _, x1, q1, fun v2 H2 Φ2 η2 r2 x2 S2 rv2 q2 => k v2 H2 Φ2 η2 r2 x2 (S1.trans S2) (rv2.back S1.trk) q2⟩

structure O1 (X : Cx) (b : Bs) (f : Value) (rd : DO1) : Prop where
  ex : ∃ r : List V → Hp → VK → Prop, CallR X f r ∧ ∀ σ H0 Φ0 η0 H Φ η d1 v1 Qd Qh, At X.K b σ H0 Φ0 η0 H Φ η → RdR X.K H Φ d1 v1 → rd d1 Qd → Cont X.K b σ H0 Φ0 η0 η Qd Qh → r [v1] H Qh
theorem or_call {f : Value} {r r' : List V → Hp → VK → Prop} (h : CallR X f r) (h' : CallR X f r') : CallR X f (fun xs H Q => r xs H Q ∨ r' xs H Q) := fun pins s σ H xs us Q I rx q =>
  q.elim (h pins s σ H xs us Q I rx) (h' pins s σ H xs us Q I rx)
theorem un_can {r : List V → Hp → VK → Prop} {rd : DO1} {σ : L2.St} {H : Hp} {Q : VK}
    (hr : ∀ σ H0 Φ0 η0 H Φ η d1 v1 Qd Qh, At X.K b σ H0 Φ0 η0 H Φ η → RdR X.K H Φ d1 v1 → rd d1 Qd → Cont X.K b σ H0 Φ0 η0 η Qd Qh → r [v1] H Qh)
    (h : canE X.K b (dUn rd ta) σ H Q) : tCB r (tCons (canE X.K b ta) tNil) σ H Q := by
  obtain ⟨Φ, η, Qd, x, q, k⟩ := h
  refine ⟨Φ, η, _, x, q, fun v1 H1 Φ1 η1 r1 x1 S1 rv1 q1 => ?_⟩
  obtain ⟨d1, rd1, q3⟩ := rd_ok x1 rv1 q1
  exact hr σ H Φ η H1 Φ1 η1 d1 v1 _ Q ⟨x, x1, S1⟩ rd1 q3 fun v H' Φ' r x' S' rv q => k v H' Φ' η1 r x' S' rv q
theorem de_b1 {id : String} {x : Str} {rd : DO1} (ho : O1 X b (.builtin id) rd) (hg : Gl X x) (hm : X.mg x = none) (hv : bootBuiltins x = some (.builtin id)) (ha : DE X b a ta) (hn : x ≠ "__name__" := by decide) (hdb : (x == ("__debug__" : Str)) = false := by decide)
    (hs : starEach [a] X.env = (false, eval a X.env) :: starEach [] X.env := by rfl) : DE X b (.Call (.Name x p) [a] [] pos) (dUn rd ta) := by
  obtain ⟨r, hr, hh⟩ := ho.ex
  exact ⟨pe_imp (pe_callB hr hg hm hv (L2.pa_cons ha.pe L2.pa_nil hs) hn hdb hs) fun σ H Q h => un_can hh h⟩
theorem de_t1 {T : String} {x : Str} {rd : DO1} (ho : O1 X b (.type T) rd) (hg : Gl X x) (hm : X.mg x = none) (hv : bootBuiltins x = some (.type T)) (ha : DE X b a ta) (hn : x ≠ "__name__" := by decide) (hdb : (x == ("__debug__" : Str)) = false := by decide)
    (hs : starEach [a] X.env = (false, eval a X.env) :: starEach [] X.env := by rfl) : DE X b (.Call (.Name x p) [a] [] pos) (dUn rd ta) := by
  obtain ⟨r, hr, hh⟩ := ho.ex
  exact ⟨pe_imp (pe_callTy hr hg hm hv (L2.pa_cons ha.pe L2.pa_nil hs) hn hdb hs) fun σ H Q h => un_can hh h⟩
def lenD : DO1
  | .str s, Q => s.length ≤ sizeLine ∧ Q (.fz (.int s.length))
  | .tup ds, Q => Q (.fz (.int ds.length))
  | .lst ds, Q => Q (.fz (.int ds.length))
  | .rol ds, Q => Q (.fz (.int ds.length))
  | .dct ks _, Q => Q (.fz (.int ks.length))
  | _, _ => False
theorem o_len : O1 X b (.builtin "len") lenD := by
  refine ⟨_, or_call call_len call_lenD, ?_⟩
  intro σ H0 Φ0 η0 H Φ η d1 v1 Qd Qh s r1 q k
  cases d1 with
  | str z => obtain rfl := r1.str; exact .inl ⟨_, _, rfl, ⟨q.1, rfl⟩, s.fz k (d := .int _) rfl q.2⟩
  | tup ds =>
    obtain ⟨a, vs, rfl, h, _, rs⟩ := r1.tup s.x.held
    exact .inl ⟨_, vs.length, rfl, .inr ⟨vs, h, rfl⟩, s.fz k (d := .int _) rfl (by rw [← rs.length]; exact q)⟩
  | lst ds =>
    obtain ⟨a, vs, rfl, h, rs⟩ := r1.lst s.x.held
    exact .inl ⟨_, vs.length, rfl, .inl ⟨vs, .inl (.inl h), rfl⟩, s.fz k (d := .int _) rfl (by rw [← rs.length]; exact q)⟩
  | rol ds =>
    obtain ⟨a, vs, rfl, h, _, rs⟩ := r1.rol s.x.held
    exact .inl ⟨_, vs.length, rfl, .inl ⟨vs, h, rfl⟩, s.fz k (d := .int _) rfl (by rw [← rs.length]; exact q)⟩
  | dct ks ds =>
    obtain ⟨a, ws, rfl, h, hk, rs⟩ := r1.dct s.x.held
    refine .inr ⟨a, ws, rfl, h, s.fz k (d := .int _) rfl ?_⟩
    have e : ws.length = ks.length := by rw [← hk, List.length_map]
    rw [e]; exact q
  | _ => exact q.elim
def tupD : DO1
  | .tup ds, Q => Q (.fz (.tup ds))
  | .lst ds, Q => Q (.fz (.tup ds))
  | _, _ => False
theorem o_tuple : O1 X b (.type "tuple") tupD := by
  refine ⟨_, call_tuple_of, ?_⟩
  intro σ H0 Φ0 η0 H Φ η d1 v1 Qd Qh s r1 q k
  cases d1 with
  | tup ds =>
    obtain ⟨a, vs, rfl, h, hf, rs⟩ := r1.tup s.x.held
    exact ⟨a, vs, rfl, .inr ⟨h, s.fz k (d := .tup _) ⟨a, vs, rfl, hf, rs⟩ q⟩⟩
  | lst ds =>
    obtain ⟨a, vs, rfl, h, rs⟩ := r1.lst s.x.held
    exact ⟨a, vs, rfl, .inl ⟨.inl (.inl h), fun p hp => s.newT k hp rs q⟩⟩
  | _ => exact q.elim
def lstD : DO1
  | .tup ds, Q => Q (.own (.lst ds))
  | .lst ds, Q => Q (.own (.lst ds))
  | .rol ds, Q => Q (.own (.lst ds))
  | _, _ => False
theorem o_list : O1 X b (.type "list") lstD := by
  refine ⟨_, call_list_of, ?_⟩
  intro σ H0 Φ0 η0 H Φ η d1 v1 Qd Qh s r1 q k
  cases d1 with
  | tup ds =>
    obtain ⟨a, vs, rfl, h, hf, rs⟩ := r1.tup s.x.held
    exact ⟨a, vs, rfl, .inr h, fun p hp => s.newL k hp rs q⟩
  | lst ds =>
    obtain ⟨a, vs, rfl, h, rs⟩ := r1.lst s.x.held
    exact ⟨a, vs, rfl, .inl (.inl (.inl h)), fun p hp => s.newL k hp rs q⟩
  | rol ds =>
    obtain ⟨a, vs, rfl, h, _, rs⟩ := r1.rol s.x.held
    exact ⟨a, vs, rfl, .inl h, fun p hp => s.newL k hp rs q⟩
  | _ => exact q.elim
def intD : DO1
  | .int i, Q => Q (.fz (.int i))
  | .bl k, Q => Q (.fz (.int (if k then 1 else 0)))
  | _, _ => False
theorem o_int : O1 X b (.type "int") intD := by
  refine ⟨_, call_int1, ?_⟩
  intro σ H0 Φ0 η0 H Φ η d1 v1 Qd Qh s r1 q k
  cases d1 with
  | int i => obtain rfl := r1.int; exact .inl ⟨i, rfl, s.fz k (d := .int _) rfl q⟩
  | bl i => obtain rfl := r1.bl; exact .inr ⟨i, rfl, s.fz k (d := .int _) rfl q⟩
  | _ => exact q.elim
def boolD : DO1
  | .int i, Q => Q (.fz (.bl (i != 0)))
  | .bl k, Q => Q (.fz (.bl k))
  | _, _ => False
theorem o_bool : O1 X b (.type "bool") boolD := by
  refine ⟨_, call_bool1, ?_⟩
  intro σ H0 Φ0 η0 H Φ η d1 v1 Qd Qh s r1 q k
  cases d1 with
  | int i => obtain rfl := r1.int; exact .inl ⟨i, rfl, s.fz k (d := .bl _) rfl q⟩
  | bl i => obtain rfl := r1.bl; exact .inr ⟨i, rfl, s.fz k (d := .bl _) rfl q⟩
  | _ => exact q.elim
end
end DL

set_option Elab.async false
set_option linter.all false
set_option maxRecDepth 100000
namespace DL
open PySem PySem.Spec PyProof.Rows L2 LamX
section
variable {X : Cx} {b : Bs} {a c e : Expr} {ta tc te : DTE} {tt tu : DTT} {tA : DTA} {pos p p2 : Pos} {rest es : List Expr}
inductive Ty where
  | int | bool | str | tuple | list | dict
@[reducible] def Ty.s : Ty → String
  | .int => "int" | .bool => "bool" | .str => "str" | .tuple => "tuple" | .list => "list" | .dict => "dict"
def isT : Ty → D → Bool
  | .int, .int _ => true
  | .int, .bl _ => true
  | .bool, .bl _ => true
  | .str, .str _ => true
  | .tuple, .tup _ => true
  | .list, .lst _ => true
  | .list, .rol _ => true
  | .dict, .dct _ _ => true
  | _, _ => false
def tyN : D → String
  | .non => "NoneType" | .bl _ => "bool" | .int _ => "int" | .str _ => "str" | .tup _ => "tuple" | .lst _ => "list" | .rol _ => "list" | .dct _ _ => "dict"
theorem kit_all : ∀ (n : String) (t : Ty), n ∈ ["NoneType", "bool", "int", "str", "tuple", "list", "dict"] → kitB n t.s = some (match t, n with
    | .int, "int" => true | .int, "bool" => true | .bool, "bool" => true | .str, "str" => true | .tuple, "tuple" => true | .list, "list" => true | .dict, "dict" => true | _, _ => false) := by
  intro n t h
  simp only [List.mem_cons, List.not_mem_nil, or_false] at h
  rcases h with rfl | rfl | rfl | rfl | rfl | rfl | rfl <;> cases t <;> decide +kernel
theorem kit_d (t : Ty) (d : D) : kitB (tyN d) t.s = some (isT t d) := by
  cases d <;> (rw [kit_all _ t (by simp [tyN])]; cases t <;> rfl)
theorem ty_x {K : PySem.W.Frag} {H Φ : Hp} {d : D} {v : V} (le : Same Φ H) (r : RdR K H Φ d v) : TyX K H v (.type (tyN d)) := by
  cases d with
  | non => obtain rfl := r.non; exact .base .non
  | bl k => obtain rfl := r.bl; exact .base (.bl k)
  | int i => obtain rfl := r.int; exact .base (.int i)
  | str s => obtain rfl := r.str; exact .base (.str s)
  | tup ds =>
    obtain ⟨a, vs, rfl, h, _, rs⟩ := r.tup le
    rcases h with (h | ⟨o, h⟩) | ⟨o, its, n, h, hc, _⟩
    · exact .base (.tup h)
    · exact .fTuple h
    · exact .kTuple h hc
  | lst ds =>
    obtain ⟨a, vs, rfl, h, rs⟩ := r.lst le
    exact .base (.lst h)
  | rol ds =>
    obtain ⟨a, vs, rfl, h, _, rs⟩ := r.rol le
    rcases h with (h | ⟨o, h⟩) | ⟨o, its, n, h, hc, _⟩
    · exact .base (.lst h)
    · exact .base (.frz h)
    · exact .kList h hc
  | dct ks ds =>
    obtain ⟨a, ws, rfl, h, hk, rs⟩ := r.dct le
    exact .base (.dK h)
def dIsi (t : Ty) (ta : DTE) : DTE := fun η Q => ta η fun r η1 => rdQ r η1 fun d => Q (.fz (.bl (isT t d))) η1
theorem de_isi (t : Ty) {x : Str} {pi : Pos} (hg : Gl X "isinstance") (hm : X.mg "isinstance" = none) (hx : Gl X x) (hmx : X.mg x = none) (hv : bootBuiltins x = some (.type t.s)) (ha : DE X b a ta)
    (hn : x ≠ "__name__" := by decide) (hdb : (x == ("__debug__" : Str)) = false := by decide)
    (hs : starEach [a, .Name x p2] X.env = (false, eval a X.env) :: starEach [.Name x p2] X.env := by rfl) (hs2 : starEach [.Name x p2] X.env = (false, eval (.Name x p2) X.env) :: starEach [] X.env := by rfl)
    (hpl : (backTo pos (starEach [.Name x p2] X.env)).any (·.1) = false := by rfl) :
    DE X b (.Call (.Name "isinstance" pi) [a, .Name x p2] [] pos) (dIsi t ta) := by
  refine ⟨pe_imp (pe_callB call_isi hg hm (by decide +kernel) (L2.pa_cons ha.pe (L2.pa_cons (pe_bltn (v := .ty t.s) hx hmx hv rfl hn hdb) L2.pa_nil hs2) hs) (by decide) (by decide) hs hpl) fun σ H Q h => ?_⟩
  obtain ⟨Φ, η, Qd, x, q, k⟩ := h
  refine ⟨Φ, η, _, x, q, fun v1 H1 Φ1 η1 r1 x1 S1 rv1 q1 => ?_⟩
  obtain ⟨d1, rd1, q3⟩ := rd_ok x1 rv1 q1
  exact ⟨v1, .ty t.s, _, _, _, rfl, .ty _, ty_x x1.held rd1, kit_ty (kit_d t d1), k _ H1 Φ1 η1 (.fz (.bl _)) x1 S1 rfl q3⟩

def ixD : DO2
  | .tup ds, .int i, Q => ∃ d, atI ds i = some d ∧ Q (.fz d)
  | .lst ds, .int i, Q => ∃ d, atI ds i = some d ∧ Q (.fz d)
  | .rol ds, .int i, Q => ∃ d, atI ds i = some d ∧ Q (.fz d)
  | .str z, .int i, Q => z.length ≤ sizeLine ∧ ∃ c, atI z.cps.toList i = some c ∧ Q (.fz (.str ⟨#[c]⟩))
  | _, _, _ => False
theorem Rs.atI {K : PySem.W.Frag} {Φ : Hp} {ds : List D} {vs : List V} {i : Int} {d : D} (rs : Rs K Φ ds vs) (h : atI ds i = some d) : ∃ v, L2.atI vs i = some v ∧ R K Φ d v := by
  unfold L2.atI at h ⊢
  rw [rs.length] at h
  cases e : ixN vs.length i with
  | none => rw [e] at h; cases h
  | some j =>
    rw [e] at h
    exact rs.get (i := j) h
theorem de_ix (ha : DE X b a ta) (hc : DE X b c tc) (hs : PlainIx c := by exact fun _ _ => rfl) : DE X b (.Subscript a c pos) (dOp ixD ta tc) := by
  refine ⟨pe_imp (pe_ix ix_seq ha.pe hc.pe hs) fun σ H Q h => bin_can (f := fun _ _ => unsupported "") ?_ h⟩
  intro σ H0 Φ0 η0 H Φ η d1 d2 v1 v2 Qd Qh s r1 r2 q k
  unfold ixD at q
  split at q
  · obtain ⟨p1, vs1, rfl, h1, f1, rs1⟩ := r1.tup s.x.held
    obtain rfl := r2.int
    obtain ⟨d, hd, q⟩ := q
    obtain ⟨v, hv, rr⟩ := rs1.atI hd
    exact .inr (.inl ⟨p1, vs1, _, v, rfl, rfl, h1, hv, s.fz k rr q⟩)
  · obtain ⟨p1, vs1, rfl, h1, rs1⟩ := r1.lst s.x.held
    obtain rfl := r2.int
    obtain ⟨d, hd, q⟩ := q
    obtain ⟨v, hv, rr⟩ := rs1.atI hd
    exact .inl ⟨p1, vs1, _, v, rfl, rfl, .inl (.inl h1), hv, s.fz k rr q⟩
  · obtain ⟨p1, vs1, rfl, h1, f1, rs1⟩ := r1.rol s.x.held
    obtain rfl := r2.int
    obtain ⟨d, hd, q⟩ := q
    obtain ⟨v, hv, rr⟩ := rs1.atI hd
    exact .inl ⟨p1, vs1, _, v, rfl, rfl, h1, hv, s.fz k rr q⟩
  · obtain rfl := r1.str
    obtain rfl := r2.int
    obtain ⟨hz, ch, hd, q⟩ := q
    exact .inr (.inr ⟨_, _, ch, rfl, rfl, hz, hd, s.fz k (d := .str _) rfl q⟩)
  · exact q.elim

abbrev DTO := En → (Option Int → En → Prop) → Prop
def canO (K : PySem.W.Frag) (b : Bs) (td : DTO) : TO := fun σ H Q => ∃ Φ η Qd, Rep K b σ H Φ η ∧ td η Qd ∧ ∀ o H' Φ' η', Rep K b σ H' Φ' η' → Stp σ H Φ η H' Φ' η' → Qd o η' → Q o H'
structure DO (X : Cx) (b : Bs) (e : Option Expr) (td : DTO) : Prop where
  po : PO X e (canO X.K b td)
def intQ : D → (Int → Prop) → Prop
  | .int i, Q => Q i
  | _, _ => False
theorem intQ_ok {K : PySem.W.Frag} {H Φ : Hp} {d : D} {v : V} {Q : Int → Prop} (r : RdR K H Φ d v) (q : intQ d Q) : ∃ k, v = .int k ∧ Q k := by
  unfold intQ at q
  split at q
  · exact ⟨_, r.int, q⟩
  · exact q.elim
def dNoO : DTO := fun η Q => Q none η
def dSoO (ta : DTE) : DTO := fun η Q => ta η fun r η1 => rdQ r η1 fun d => intQ d fun i => Q (some i) η1
theorem do_no : DO X b none dNoO := by
  refine ⟨⟨fun pins s σ H Q I h => po_none.run pins s σ H Q I ?_⟩⟩
  obtain ⟨Φ, η, Qd, x, q, k⟩ := h
  exact k none H Φ η x .refl q
theorem do_so (ha : DE X b a ta) : DO X b (some a) (dSoO ta) := by
  refine ⟨⟨fun pins s σ H Q I h => (po_some ha.pe).run pins s σ H Q I ?_⟩⟩
  obtain ⟨Φ, η, Qd, x, q, k⟩ := h
  refine ⟨Φ, η, _, x, q, fun v1 H1 Φ1 η1 r1 x1 S1 rv1 q1 => ?_⟩
  obtain ⟨d1, rd1, q3⟩ := rd_ok x1 rv1 q1
  obtain ⟨i, e, q4⟩ := intQ_ok rd1 q3
  exact ⟨i, e, k _ H1 Φ1 η1 x1 S1 q4⟩
def cutD (ds : List D) (lo hi : Option Int) : List D := (ds.drop (HT.sIx ds.length 0 lo)).take (HT.sIx ds.length ds.length hi - HT.sIx ds.length 0 lo)
theorem Rs.cut {K : PySem.W.Frag} {Φ : Hp} {ds : List D} {vs : List V} (rs : Rs K Φ ds vs) (lo hi : Option Int) : Rs K Φ (cutD ds lo hi) (cutV vs lo hi) := by
  unfold cutD cutV
  rw [rs.length]
  exact (rs.drop _).take _
def slD (lo hi : Option Int) : DO1
  | .lst ds, Q => Q (.own (.lst (cutD ds lo hi)))
  | .tup ds, Q => Q (.fz (.tup (cutD ds lo hi)))
  | .str z, Q => z.length ≤ sizeLine ∧ Q (.fz (.str (cutS z lo hi)))
  | _, _ => False
def dSl (ta : DTE) (tl th : DTO) : DTE := fun η Q => ta η fun r η1 => tl η1 fun lo η2 => th η2 fun hi η3 => rdQ r η3 fun d => slD lo hi d fun r => Q r η3
theorem de_sl {lo hi : Option Expr} {tl th : DTO} (ha : DE X b a ta) (hl : DO X b lo tl) (hh : DO X b hi th) : DE X b (.Subscript a (.Slice lo hi none p2) pos) (dSl ta tl th) := by
  refine ⟨pe_imp (pe_slice (sl_list.or (sl_tupA.or sl_str)) ha.pe hl.po hh.po) fun σ H Q h => ?_⟩
  obtain ⟨Φ, η, Qd, x, q, k⟩ := h
  refine ⟨Φ, η, _, x, q, fun v1 H1 Φ1 η1 r1 x1 S1 rv1 q1 => ?_⟩
  refine ⟨Φ1, η1, _, x1, q1, fun l H2 Φ2 η2 x2 S2 q2 => ?_⟩
  refine ⟨Φ2, η2, _, x2, q2, fun u H3 Φ3 η3 x3 S3 q3 => ?_⟩
  obtain ⟨d1, r1, q⟩ := rd_ok x3 (S3.rv (S2.rv rv1)) q3
  have s : At X.K b σ H Φ η H3 Φ3 η3 := ⟨x, x3, (S1.trans S2).trans S3⟩
  have k' : Cont X.K b σ H Φ η η3 (fun r => Qd r η3) Q := fun v H' Φ' r x' S' rv q => k v H' Φ' η3 r x' S' rv q
  unfold slD at q
  split at q
  · obtain ⟨p1, vs1, rfl, h1, rs1⟩ := r1.lst x3.held
    exact .inl ⟨p1, vs1, rfl, .inl (.inl h1), fun p hp => s.newL k' hp (rs1.cut _ _) q⟩
  · obtain ⟨p1, vs1, rfl, h1, f1, rs1⟩ := r1.tup x3.held
    refine .inr (.inl ⟨p1, vs1, rfl, h1, fun e => ?_, fun _ p hp => s.newT k' hp (rs1.cut _ _) q⟩)
    have e2 : ∀ ds : List D, ds.length = vs1.length → cutD ds l u = ds := fun ds hd => by
      unfold cutD
      rw [hd, e.1, e.2, List.drop_zero, Nat.sub_zero, ← hd]
      exact List.take_length
    rw [e2 _ rs1.length] at q
    exact s.fz k' (d := .tup _) ⟨p1, vs1, rfl, f1, rs1⟩ q
  · obtain rfl := r1.str
    exact .inr (.inr ⟨_, rfl, q.1, s.fz k' (d := .str _) rfl q.2⟩)
  · exact q.elim
end
end DL

set_option Elab.async false
set_option linter.all false
set_option maxRecDepth 100000
namespace DL
open PySem PySem.Spec PyProof.Rows L2 LamX

/-- a def's promise over data: its arguments (data, lent objects), what is wanted of its end (and of what was lent), of what it raises -/
abbrev DSp := List Sl → (Rv → List OC → Prop) → (Nat → D → Prop) → Prop

section
variable (K : PySem.W.Frag) (H Φ : Hp)
def ArgsP : List Sl → List V → List (Option Addr) → Prop
  | [], vs, ads => vs = [] ∧ ads = []
  | .fz d :: as, vs, ads => ∃ v r ar, vs = v :: r ∧ ads = none :: ar ∧ R K Φ d v ∧ ArgsP as r ar
  | .bor o :: as, vs, ads => ∃ a r ar, vs = .ref a :: r ∧ ads = some a :: ar ∧ OcR K H Φ o a ∧ ArgsP as r ar
  | .own _ :: _, _, _ => False
  | .no :: _, _, _ => False
def OutsP : List (Option Addr) → List OC → Prop
  | [], os => os = []
  | none :: as, os => OutsP as os
  | some a :: as, os => ∃ o r, os = o :: r ∧ OcR K H Φ o a ∧ OutsP as r
def RetR (H0 : Hp) : Rv → V → Prop
  | .fz d, v => R K Φ d v
  | .own o, v => ∃ a, v = .ref a ∧ OcR K H Φ o a ∧ H0 a = none
  | .at _, _ => False
end
def DisA (ads : List (Option Addr)) : Prop := ∀ (i j : Nat) (a : Addr), ads[i]? = some (some a) → ads[j]? = some (some a) → i = j
def spD (K : PySem.W.Frag) (T : List (Addr × Str)) (CL : Nat → Option Addr) (sp : DSp) : Sp := fun vs H Q E => ∃ (Φ : Hp) (ads : List (Option Addr)) (args : List Sl) (QD : Rv → List OC → Prop) (ED : Nat → D → Prop),
  Same Φ H ∧ (∀ a ps, Φ a ≠ some (.tbl ps)) ∧ Tabs T H ∧ ArgsP K H Φ args vs ads ∧ DisA ads ∧ sp args QD ED ∧ HE K ⟨T, H, Φ, ads, CL, E, ED⟩ ∧
  ∀ v H' Φ' r outs, Ext K ⟨T, H, Φ, ads, CL, E, ED⟩ H' Φ' → OutsP K H' Φ' ads outs → RetR K H' Φ' H r v → QD r outs → Q v H'

section
variable {K : PySem.W.Frag} {H Φ H' Φ' : Hp} {T : List (Addr × Str)} {CL : Nat → Option Addr} {E : XK} {ED : Nat → D → Prop}
theorem ArgsP.len : ∀ {as : List Sl} {vs : List V} {ads : List (Option Addr)}, ArgsP K H Φ as vs ads → as.length = vs.length
  | [], vs, ads, h => by rw [h.1]; rfl
  | .fz d :: as, vs, ads, h => by obtain ⟨v, r, ar, rfl, rfl, _, q⟩ := h; simp [q.len]
  | .bor o :: as, vs, ads, h => by obtain ⟨a, r, ar, rfl, rfl, _, q⟩ := h; simp [q.len]
  | .own _ :: _, _, _, h => h.elim
  | .no :: _, _, _, h => h.elim
theorem slot_rep (m i : Nat) : slot (List.replicate m Sl.no) i = .no := by
  induction m generalizing i with
  | zero => rfl
  | succ m ih => cases i with
    | zero => rfl
    | succ i => exact ih i
theorem entry_sl (m n : Nat) : ∀ {as : List Sl} {vs : List V} {ads : List (Option Addr)}, ArgsP K H Φ as vs ads → ∀ i, SlR K H Φ (slot (as ++ List.replicate m .no) i) ((vs.map some ++ List.replicate n none)[i]?.join)
  | [], vs, ads, h, i => by rw [List.nil_append, slot_rep]; trivial
  | .fz d :: as, vs, ads, h, i => by
    obtain ⟨v, r, ar, rfl, rfl, rr, q⟩ := h
    cases i with
    | zero => exact ⟨v, rfl, rr⟩
    | succ i => exact entry_sl m n q i
  | .bor o :: as, vs, ads, h, i => by
    obtain ⟨a, r, ar, rfl, rfl, rr, q⟩ := h
    cases i with
    | zero => exact ⟨a, rfl, rr⟩
    | succ i => exact entry_sl m n q i
  | .own _ :: _, _, _, h, _ => h.elim
  | .no :: _, _, _, h, _ => h.elim
/-- what is owned at the entry is lent -/
theorem entry_own (m n : Nat) : ∀ {as : List Sl} {vs : List V} {ads : List (Option Addr)}, ArgsP K H Φ as vs ads → ∀ i, (slot (as ++ List.replicate m .no) i).isOwn = true →
    ∃ o a, slot (as ++ List.replicate m .no) i = .bor o ∧ (vs.map some ++ List.replicate n none)[i]? = some (some (.ref a)) ∧ ads[i]? = some (some a)
  | [], vs, ads, h, i, z => by rw [List.nil_append, slot_rep] at z; cases z
  | .fz d :: as, vs, ads, h, i, z => by
    obtain ⟨v, r, ar, rfl, rfl, rr, q⟩ := h
    cases i with
    | zero => cases z
    | succ i => exact entry_own m n q i z
  | .bor o :: as, vs, ads, h, i, z => by
    obtain ⟨a, r, ar, rfl, rfl, rr, q⟩ := h
    cases i with
    | zero => exact ⟨o, a, rfl, rfl, rfl⟩
    | succ i => exact entry_own m n q i z
  | .own _ :: _, _, _, h, _, _ => h.elim
  | .no :: _, _, _, h, _, _ => h.elim
theorem entry_bor (m n : Nat) : ∀ {as : List Sl} {vs : List V} {ads : List (Option Addr)}, ArgsP K H Φ as vs ads → ∀ i a, ads[i]? = some (some a) →
    (∃ o, slot (as ++ List.replicate m .no) i = .bor o) ∧ (vs.map some ++ List.replicate n none)[i]? = some (some (.ref a))
  | [], vs, ads, h, i, a, z => by rw [h.2] at z; simp at z
  | .fz d :: as, vs, ads, h, i, a, z => by
    obtain ⟨v, r, ar, rfl, rfl, rr, q⟩ := h
    cases i with
    | zero => simp at z
    | succ i => exact entry_bor m n q i a (by simpa using z)
  | .bor o :: as, vs, ads, h, i, a, z => by
    obtain ⟨a', r, ar, rfl, rfl, rr, q⟩ := h
    cases i with
    | zero => simp at z; subst z; exact ⟨⟨o, rfl⟩, rfl⟩
    | succ i => exact entry_bor m n q i a (by simpa using z)
  | .own _ :: _, _, _, h, _, _, _ => h.elim
  | .no :: _, _, _, h, _, _, _ => h.elim
theorem entry {as : List Sl} {vs : List V} {ads : List (Option Addr)} {m n : Nat} (hm : m = n) (held : Same Φ H) (nt : ∀ a ps, Φ a ≠ some (.tbl ps)) (tabs : Tabs T H) (A : ArgsP K H Φ as vs ads) (dis : DisA ads) (he : HE K ⟨T, H, Φ, ads, CL, E, ED⟩) :
    Rep K ⟨T, H, Φ, ads, CL, E, ED⟩ (vs.map some ++ List.replicate n none) H Φ (as ++ List.replicate m .no) where
  held := held
  nt := nt
  grow := fun _ _ h => h
  kept := fun _ _ h _ _ => h
  still := fun _ h => h
  frz0 := fun _ h1 h2 => absurd h2 h1
  tabs := tabs
  len := by rw [List.length_append, List.length_append, List.length_map, List.length_replicate, List.length_replicate, A.len, hm]
  sl := entry_sl m n A
  sep := fun i j a h1 h2 e1 e2 => by
    obtain ⟨o, a1, _, q1, r1⟩ := entry_own m n A i h1
    obtain ⟨o', a2, _, q2, r2⟩ := entry_own m n A j h2
    rw [e1] at q1; cases q1
    rw [e2] at q2; cases q2
    exact dis i j a r1 r2
  ownF := fun i a o h _ => by
    obtain ⟨o', a', q, _⟩ := entry_own m n A i (by rw [h]; rfl)
    rw [h] at q; cases q
  bor1 := entry_bor m n A
  bor2 := fun i o h => by
    obtain ⟨o', a', _, _, q⟩ := entry_own m n A i (by rw [h]; rfl)
    exact ⟨a', q⟩
  he := he

def outsOf : List Sl → En → List OC
  | .bor _ :: as, .bor o :: η => o :: outsOf as η
  | .bor _ :: as, _ :: η => .lst [] :: outsOf as η
  | _ :: as, _ :: η => outsOf as η
  | _, _ => []
def retQ (args : List Sl) (r : Rv) (η : En) (QD : Rv → List OC → Prop) : Prop :=
  match r with
  | .fz d => QD (.fz d) (outsOf args η)
  | .own o => QD (.own o) (outsOf args η)
  | .at i => match slot η i with
    | .fz d => QD (.fz d) (outsOf args η)
    | .own o => QD (.own o) (outsOf args η)
    | _ => False
def endsOf (args : List Sl) (QD : Rv → List OC → Prop) : DEnds where
  nx := fun η => QD (.fz .non) (outsOf args η)
  rt := fun r η => retQ args r η QD
def bodyQ (args : List Sl) (m : Nat) (td : DTS) (QD : Rv → List OC → Prop) : Prop := td (endsOf args QD) (args ++ List.replicate m .no)
theorem outs_ok : ∀ {as : List Sl} {vs : List V} {ads : List (Option Addr)} {η : En}, ArgsP K H Φ as vs ads → (∀ i a, ads[i]? = some (some a) → ∃ o, slot η i = .bor o ∧ OcR K H' Φ' o a) → OutsP K H' Φ' ads (outsOf as η)
  | [], vs, ads, η, h, k => by rw [h.2]; cases η <;> rfl
  | .fz d :: as, vs, ads, η, h, k => by
    obtain ⟨v, r, ar, rfl, rfl, rr, q⟩ := h
    cases η with
    | nil =>
      have e : outsOf (.fz d :: as) [] = outsOf as [] := by cases as with
        | nil => rfl
        | cons x xs => cases x <;> rfl
      rw [e]
      exact outs_ok (ads := ar) (η := []) q fun i a z => by
        obtain ⟨o, z1, _⟩ := k (i + 1) a (by simpa using z)
        cases z1
    | cons s η => exact outs_ok (ads := ar) (η := η) q fun i a z => k (i + 1) a (by simpa using z)
  | .bor o :: as, vs, ads, η, h, k => by
    obtain ⟨a, r, ar, rfl, rfl, rr, q⟩ := h
    obtain ⟨o', e, c⟩ := k 0 a rfl
    cases η with
    | nil => cases e
    | cons s η =>
      have e : s = .bor o' := e
      subst e
      exact ⟨o', outsOf as η, rfl, c, outs_ok (ads := ar) (η := η) q fun i a z => k (i + 1) a (by simpa using z)⟩
  | .own _ :: _, _, _, _, h, _ => h.elim
  | .no :: _, _, _, _, h, _ => h.elim
theorem Rep.outs {σ : L2.St} {η : En} {b : Bs} {as : List Sl} {vs : List V} (x : Rep K b σ H' Φ' η) (A : ArgsP K H Φ as vs b.args) : OutsP K H' Φ' b.args (outsOf as η) :=
  outs_ok A fun i a z => by
    obtain ⟨⟨o, e⟩, hv⟩ := x.bor1 i a z
    have q := x.sl i
    rw [e, some_join hv] at q
    obtain ⟨a', e', c⟩ := q
    cases e'
    exact ⟨o, e, c⟩
end

/-- a body's reading, from its promise -/
theorem body_can {K : PySem.W.Frag} {σ : L2.St} {H Φ : Hp} {T : List (Addr × Str)} {CL : Nat → Option Addr} {E : XK} {ED : Nat → D → Prop} {ads : List (Option Addr)} {args : List Sl} {vs : List V} {m : Nat} {td : DTS} {QD : Rv → List OC → Prop} {Q : VK}
    (x : Rep K ⟨T, H, Φ, ads, CL, E, ED⟩ σ H Φ (args ++ List.replicate m Sl.no)) (A' : ArgsP K H Φ args vs ads) (q : bodyQ args m td QD)
    (k : ∀ v H' Φ' r outs, Ext K ⟨T, H, Φ, ads, CL, E, ED⟩ H' Φ' → OutsP K H' Φ' ads outs → RetR K H' Φ' H r v → QD r outs → Q v H') : canS K ⟨T, H, Φ, ads, CL, E, ED⟩ td { nx := fun _ H' => Q .non H', rt := Q } σ H := by
  refine ⟨Φ, args ++ List.replicate m Sl.no, endsOf args QD, x, q, ?_, ?_, ?_, ?_⟩
  · intro σ' H' Φ' η' x' _ qn
    exact k .non H' Φ' (.fz .non) _ x'.toExt (x'.outs A') rfl qn
  · intro v σ' H' Φ' η' r x' rv qn
    cases r with
    | fz d => exact k v H' Φ' (.fz d) _ x'.toExt (x'.outs A') rv qn
    | own o =>
      obtain ⟨a, ea, c, f0, _⟩ := rv
      exact k v H' Φ' (.own o) _ x'.toExt (x'.outs A') ⟨a, ea, c, f0⟩ qn
    | «at» i =>
      obtain ⟨hv, _⟩ := rv
      have z := x'.sl i
      rw [some_join hv] at z
      have qn' : (match slot η' i with
        | .fz d => QD (.fz d) (outsOf args η')
        | .own o => QD (.own o) (outsOf args η')
        | _ => False) := qn
      cases e : slot η' i with
      | no => rw [e] at qn'; exact qn'.elim
      | bor o => rw [e] at qn'; exact qn'.elim
      | fz d =>
        rw [e] at qn' z
        obtain ⟨v', e', rr⟩ := z
        cases e'
        exact k v H' Φ' (.fz d) _ x'.toExt (x'.outs A') rr qn'
      | own o =>
        rw [e] at qn' z
        obtain ⟨a, e', c⟩ := z
        cases e'
        exact k _ H' Φ' (.own o) _ x'.toExt (x'.outs A') ⟨a, rfl, c, x'.ownF i a o e hv⟩ qn'
  · intro σ' H' Φ' η' _ _ z; exact z.elim
  · intro σ' H' Φ' η' _ _ z; exact z.elim

section
variable {P : Program} {w : World} {K : PySem.W.Frag} {mg : Str → Option Value} {base : Heap} {T : List (Addr × Str)} {CL : Nat → Option Addr}
/-- a def keeps its promise, by its body's reading -/
theorem fn_ok {x qual : Str} {st : Stmt} {f : Addr} {fd : FuncData} {N ps : List Str} {k m : Nat} {sp : DSp} {td : (Nat → D → Prop) → DTS} (F : Fun K x qual st f fd) (S : FnScope N ps (defScope st)) (hm : N.length = ps.length + m)
    (hl : ∀ args QD ED, sp args QD ED → args.length = ps.length) (hsp : ∀ args QD ED, sp args QD ED → bodyQ args m (td ED) QD)
    (body : ∀ (cdv : Value) (A : Around) (outer : List Env) (s : Shared) (H : Hp) (E : XK) (b : Bs), b.T = T → b.CL = CL → Room k (A.deeper (envOfC qual (defScope st) s.heap.objs.size f cdv)) →
      Takes (cxOf (L2.CX P w) P w K mg base N qual (defScope st) f cdv A outer s H E) (fun cls d _ H => b.E cls d H) →
      DSs (cxOf (L2.CX P w) P w K mg base N qual (defScope st) f cdv A outer s H E) b (defBody st) (td b.ED)) : FnOk P w K mg base (L2.CX P w) (k + 1) f fd ps (spD K T CL sp) := by
  refine F.okX S (fun vs H Q E h => ?_) fun cdv A outer s H vs Q E hr h => ?_
  · obtain ⟨Φ, ads, args, QD, ED, _, _, _, A, _, q, _⟩ := h
    rw [← A.len]; exact hl _ _ _ q
  · obtain ⟨Φ, ads, args, QD, ED, held, nt, tabs, A', dis, q, he, k⟩ := h
    have al : args.length = ps.length := hl _ _ _ q
    have e : m = N.length - vs.length := by rw [← A'.len, al, hm]; omega
    have x := entry e held nt tabs A' dis he
    exact ⟨_, (body cdv A outer s H E ⟨T, H, Φ, ads, CL, E, ED⟩ rfl rfl hr (takes_of rfl rfl rfl rfl)).pss, body_can x A' (hsp _ _ _ q) k⟩
end
end DL

set_option Elab.async false
set_option linter.all false
set_option maxRecDepth 100000
namespace DL
open PySem PySem.Spec PyProof.Rows L2 LamX

def lents : List Ar → List Nat
  | [] => []
  | .d _ :: as => lents as
  | .at i :: as => i :: lents as
def argsOf (η : En) : List Ar → List Sl
  | [] => []
  | .d d :: as => .fz d :: argsOf η as
  | .at i :: as => (match slot η i with
    | .own o => .bor o
    | s => s) :: argsOf η as
def reS : Sl → OC → Sl
  | .own _, o => .own o
  | .bor _, o => .bor o
  | s, _ => s
def putB : List Ar → List OC → En → En
  | .d _ :: as, os, η => putB as os η
  | .at i :: as, o :: os, η => putB as os (η.set i (reS (slot η i) o))
  | _, _, η => η
def lentQ (as : List Ar) (η : En) : Prop := (lents as).Nodup ∧ ∀ i ∈ lents as, (slot η i).isOwn = true
def callQ (sp : DSp) (ED : Nat → D → Prop) (as : List Ar) (η : En) (Q : Rv → En → Prop) : Prop :=
  lentQ as η ∧ sp (argsOf η as) (fun r outs => Q r (putB as outs η)) ED
def dCall (sp : DSp) (ED : Nat → D → Prop) (ta : DTA) : DTE := fun η Q => ta η fun as η1 => callQ sp ED as η1 Q
abbrev ED0 : Nat → D → Prop := fun _ _ => False

/-- the lent objects' addresses -/
def Lnk (σ : L2.St) : List Ar → List (Option Addr) → Prop
  | [], ads => ads = []
  | .d _ :: as, ads => ∃ r, ads = none :: r ∧ Lnk σ as r
  | .at i :: as, ads => ∃ a r, ads = some a :: r ∧ σ[i]? = some (some (.ref a)) ∧ Lnk σ as r
section
variable {K : PySem.W.Frag} {b : Bs} {σ : L2.St} {H Φ H' Φ' : Hp} {η : En}
theorem reS_own {s : Sl} {o : OC} : (reS s o).isOwn = s.isOwn := by cases s <;> rfl
theorem Lnk.at : ∀ {as : List Ar} {ads : List (Option Addr)} {j : Nat} {a : Addr}, Lnk σ as ads → ads[j]? = some (some a) → ∃ i, as[j]? = some (.at i) ∧ i ∈ lents as ∧ σ[i]? = some (some (.ref a))
  | [], ads, j, a, h, e => by rw [show ads = [] from h] at e; simp at e
  | .d d :: as, ads, j, a, h, e => by
    obtain ⟨r, rfl, q⟩ := h
    cases j with
    | zero => simp at e
    | succ j =>
      obtain ⟨i, h1, h2, h3⟩ := Lnk.at (j := j) q (by simpa using e)
      exact ⟨i, by simpa using h1, h2, h3⟩
  | .at i0 :: as, ads, j, a, h, e => by
    obtain ⟨a0, r, rfl, hs, q⟩ := h
    cases j with
    | zero => simp at e; subst e; exact ⟨i0, rfl, List.mem_cons_self, hs⟩
    | succ j =>
      obtain ⟨i, h1, h2, h3⟩ := Lnk.at (j := j) q (by simpa using e)
      exact ⟨i, by simpa using h1, List.mem_cons_of_mem _ h2, h3⟩
theorem Lnk.mem : ∀ {as : List Ar} {ads : List (Option Addr)} {i : Nat}, Lnk σ as ads → i ∈ lents as → ∃ (j : Nat) (a : Addr), ads[j]? = some (some a) ∧ as[j]? = some (.at i) ∧ σ[i]? = some (some (.ref a))
  | [], ads, i, h, e => by cases e
  | .d d :: as, ads, i, h, e => by
    obtain ⟨r, rfl, q⟩ := h
    obtain ⟨j, a, h1, h2, h3⟩ := Lnk.mem q e
    exact ⟨j + 1, a, by simpa using h1, by simpa using h2, h3⟩
  | .at i0 :: as, ads, i, h, e => by
    obtain ⟨a0, r, rfl, hs, q⟩ := h
    rcases List.mem_cons.mp e with rfl | e
    · exact ⟨0, a0, rfl, rfl, hs⟩
    · obtain ⟨j, a, h1, h2, h3⟩ := Lnk.mem q e
      exact ⟨j + 1, a, by simpa using h1, by simpa using h2, h3⟩
theorem lents_at : ∀ {as : List Ar} {i j i' : Nat}, (lents as).Nodup → as[j]? = some (.at i') → as[i]? = some (.at i') → i = j
  | [], i, j, i', _, e, _ => by simp at e
  | .d d :: as, i, j, i', nd, e1, e2 => by
    cases i with
    | zero => simp at e2
    | succ i => cases j with
      | zero => simp at e1
      | succ j => exact congrArg (· + 1) (lents_at (as := as) (i := i) (j := j) (i' := i') nd (by simpa using e1) (by simpa using e2))
  | .at k :: as, i, j, i', nd, e1, e2 => by
    have nd' := List.nodup_cons.mp nd
    have mem : ∀ {n : Nat}, as[n]? = some (.at k) → k ∈ lents as := fun {n} h => by
      have : ∀ {as : List Ar} {n : Nat}, as[n]? = some (.at k) → k ∈ lents as := by
        intro as
        induction as with
        | nil => intro n h; simp at h
        | cons a as ih =>
          intro n h
          cases n with
          | zero => simp at h; subst h; exact List.mem_cons_self
          | succ n => cases a with
            | d d => exact ih (n := n) (by simpa using h)
            | «at» i => exact List.mem_cons_of_mem _ (ih (n := n) (by simpa using h))
      exact this h
    cases i with
    | zero =>
      simp at e2; subst e2
      cases j with
      | zero => rfl
      | succ j => exact absurd (mem (n := j) (by simpa using e1)) nd'.1
    | succ i => cases j with
      | zero => simp at e1; subst e1; exact absurd (mem (n := i) (by simpa using e2)) nd'.1
      | succ j => exact congrArg (· + 1) (lents_at (as := as) (i := i) (j := j) (i' := i') nd'.2 (by simpa using e1) (by simpa using e2))
/-- the arguments as the callee has them -/
theorem args_ok (x : Rep K b σ H Φ η) : ∀ {as : List Ar} {vs : List V}, ArsR K σ Φ as vs → (∀ i ∈ lents as, (slot η i).isOwn = true) → ∃ ads, ArgsP K H Φ (argsOf η as) vs ads ∧ Lnk σ as ads
  | [], vs, h, _ => ⟨[], ⟨h, rfl⟩, rfl⟩
  | .d d :: as, vs, h, ho => by
    obtain ⟨v, r, rfl, rr, q⟩ := h
    obtain ⟨ads, h1, h2⟩ := args_ok x q ho
    exact ⟨none :: ads, ⟨v, r, ads, rfl, rfl, rr, h1⟩, ads, rfl, h2⟩
  | .at i :: as, vs, h, ho => by
    obtain ⟨v, r, rfl, rr, q⟩ := h
    obtain ⟨ads, h1, h2⟩ := args_ok x q fun j hj => ho j (List.mem_cons_of_mem _ hj)
    have rr' : σ[i]? = some (some v) := rr
    have hi := ho i List.mem_cons_self
    have z := x.sl i
    rw [some_join rr'] at z
    have go : ∀ o a, some v = some (V.ref a) → OcR K H Φ o a → ∃ ads, ArgsP K H Φ (.bor o :: argsOf η as) (v :: r) ads ∧ Lnk σ (.at i :: as) ads := fun o a e c => by
      cases e
      exact ⟨some a :: ads, ⟨a, r, ads, rfl, rfl, c, h1⟩, a, ads, rfl, rr', h2⟩
    cases e : slot η i with
    | no => rw [e] at hi; cases hi
    | fz d => rw [e] at hi; cases hi
    | own o =>
      rw [e] at z
      obtain ⟨a, e', c⟩ := z
      obtain ⟨ads', q1, q2⟩ := go o a e' c
      exact ⟨ads', by unfold argsOf; rw [e]; exact q1, q2⟩
    | bor o =>
      rw [e] at z
      obtain ⟨a, e', c⟩ := z
      obtain ⟨ads', q1, q2⟩ := go o a e' c
      exact ⟨ads', by unfold argsOf; rw [e]; exact q1, q2⟩
theorem put_len : ∀ {as : List Ar} {os : List OC} {η : En}, (putB as os η).length = η.length
  | [], os, η => rfl
  | .d d :: as, os, η => put_len (as := as)
  | .at i :: as, [], η => rfl
  | .at i :: as, o :: os, η => by
    show (putB as os (η.set i (reS (slot η i) o))).length = _
    rw [put_len, List.length_set]
theorem put_out : ∀ {as : List Ar} {os : List OC} {η : En} {i : Nat}, i ∉ lents as → slot (putB as os η) i = slot η i
  | [], os, η, i, _ => rfl
  | .d d :: as, os, η, i, h => put_out (as := as) h
  | .at j :: as, [], η, i, h => rfl
  | .at j :: as, o :: os, η, i, h => by
    show slot (putB as os (η.set j (reS (slot η j) o))) i = _
    rw [put_out fun z => h (List.mem_cons_of_mem _ z), slot_set_ne fun z => h (by rw [z]; exact List.mem_cons_self)]
theorem put_in : ∀ {as : List Ar} {ads : List (Option Addr)} {os : List OC} {η : En} {i : Nat}, (lents as).Nodup → Lnk σ as ads → OutsP K H' Φ' ads os → i ∈ lents as → (slot η i).isOwn = true →
    ∃ o a, slot (putB as os η) i = reS (slot η i) o ∧ σ[i]? = some (some (.ref a)) ∧ OcR K H' Φ' o a
  | [], ads, os, η, i, _, _, _, h, _ => by cases h
  | .d d :: as, ads, os, η, i, nd, L, O, h, ho => by
    obtain ⟨r, rfl, q⟩ := L
    exact put_in (as := as) nd q O h ho
  | .at j :: as, ads, os, η, i, nd, L, O, h, ho => by
    obtain ⟨a, r, rfl, hs, q⟩ := L
    obtain ⟨o, os', rfl, c, O'⟩ := O
    have nd' := List.nodup_cons.mp nd
    show ∃ o' a, slot (putB as os' (η.set j (reS (slot η j) o))) i = _ ∧ _
    by_cases hij : i = j
    · subst hij
      refine ⟨o, a, ?_, hs, c⟩
      rw [put_out nd'.1, slot_set_same (slot_lt fun z => by rw [z] at ho; cases ho)]
    · have hm : i ∈ lents as := (List.mem_cons.mp h).resolve_left hij
      have e : slot (η.set j (reS (slot η j) o)) i = slot η i := slot_set_ne hij
      obtain ⟨o', a', h1, h2, h3⟩ := put_in (as := as) (η := η.set j (reS (slot η j) o)) nd'.2 q O' hm (by rw [e]; exact ho)
      exact ⟨o', a', by rw [h1, e], h2, h3⟩
/-- behind the call -/
theorem call_after {E : XK} {ED : Nat → D → Prop} {as : List Ar} {ads : List (Option Addr)} {outs : List OC} (x : Rep K b σ H Φ η) (lq : lentQ as η) (L : Lnk σ as ads)
    (X' : Ext K ⟨b.T, H, Φ, ads, b.CL, E, ED⟩ H' Φ') (O : OutsP K H' Φ' ads outs) : Rep K b σ H' Φ' (putB as outs η) ∧ Stp σ H Φ η H' Φ' (putB as outs η) := by
  have trk : ∀ a, H a ≠ none → H' a ≠ none := fun a h z => h (X'.still a z)
  have lentA : ∀ a, some a ∈ ads → ∃ i ∈ lents as, σ[i]? = some (some (.ref a)) := fun a ha => by
    obtain ⟨j, hj⟩ := List.mem_iff_getElem?.mp ha
    obtain ⟨i, _, h2, h3⟩ := L.at hj
    exact ⟨i, h2, h3⟩
  have keepN : ∀ a o, H a = some o → (∀ i ∈ lents as, σ[i]? ≠ some (some (.ref a))) → (∀ ps, o ≠ .tbl ps) → H' a = some o := fun a o h n t =>
    X'.kept a o h (fun z => by obtain ⟨i, h1, h2⟩ := lentA a z; exact n i h1 h2) t
  have isO : ∀ i, (slot (putB as outs η) i).isOwn = (slot η i).isOwn := fun i => by
    by_cases hi : i ∈ lents as
    · obtain ⟨o, a, h1, _, _⟩ := put_in lq.1 L O hi (lq.2 i hi)
      rw [h1, reS_own]
    · rw [put_out hi]
  have frz : ∀ a, Φ' a ≠ none → Φ a = none → H a = none := X'.frz0
  refine ⟨{ held := X'.held, nt := X'.nt, grow := x.grow.trans X'.grow, kept := fun a o h1 h2 h3 => ?_, still := fun a h => x.still a (X'.still a h), frz0 := fun a h1 h2 => ?_, tabs := X'.tabs, len := by rw [put_len]; exact x.len, sl := fun i => ?_,
            sep := fun i j a h1 h2 => x.sep i j a (by rw [← isO]; exact h1) (by rw [← isO]; exact h2), ownF := fun i a o h1 h2 => ?_, bor1 := fun i a h => ?_, bor2 := fun i o h => ?_, he := x.he }, ?_⟩
  · refine keepN a o (x.kept a o h1 h2 h3) (fun i hi z => ?_) h3
    have ho := lq.2 i hi
    cases e : slot η i with
    | no => rw [e] at ho; cases ho
    | fz d => rw [e] at ho; cases ho
    | own o' => rw [x.ownF i a o' e z] at h1; cases h1
    | bor o' =>
      obtain ⟨a', h'⟩ := x.bor2 i o' e
      have z' := (x.bor1 i a' h').2
      rw [z] at z'; cases z'
      exact h2 (List.mem_of_getElem? h')
  · cases e : Φ a with
    | none => exact x.still a (frz a h1 e)
    | some u => exact x.frz0 a (by rw [e]; simp) h2
  · by_cases hi : i ∈ lents as
    · obtain ⟨o, a, h1, h2, h3⟩ := put_in lq.1 L O hi (lq.2 i hi)
      rw [h1, some_join h2]
      have ho := lq.2 i hi
      cases e : slot η i with
      | no => rw [e] at ho; cases ho
      | fz d => rw [e] at ho; cases ho
      | own o' => exact ⟨a, rfl, h3⟩
      | bor o' => exact ⟨a, rfl, h3⟩
    · rw [put_out hi]
      have q := x.sl i
      have own : ∀ o a, σ[i]?.join = some (.ref a) → (slot η i).isOwn = true → OcR K H Φ o a → OcR K H' Φ' o a := fun o a e1 e2 c => by
        refine c.step X'.grow (fun u e t => keepN a u e (fun j hj z => ?_) t) ?_
        · have := x.sep i j a e2 (lq.2 j hj) (join_some e1) z
          exact hi (this ▸ hj)
        · cases e : Φ' a with
          | none => rfl
          | some u =>
            have h0 := frz a (by rw [e]; simp) c.nf
            obtain ⟨u', hu, _⟩ := c.there
            rw [h0] at hu; cases hu
      cases e : slot η i with
      | no => trivial
      | fz d =>
        rw [e] at q
        obtain ⟨v, h1, h2⟩ := q
        exact ⟨v, h1, h2.mono X'.grow⟩
      | own o =>
        rw [e] at q
        obtain ⟨a, h1, h2⟩ := q
        exact ⟨a, h1, own o a h1 (by rw [e]; rfl) h2⟩
      | bor o =>
        rw [e] at q
        obtain ⟨a, h1, h2⟩ := q
        exact ⟨a, h1, own o a h1 (by rw [e]; rfl) h2⟩
  · by_cases hi : i ∈ lents as
    · obtain ⟨o', a', q1, _, _⟩ := put_in lq.1 L O hi (lq.2 i hi)
      rw [q1] at h1
      cases e : slot η i with
      | no => rw [e] at h1; cases h1
      | fz d => rw [e] at h1; cases h1
      | bor o2 => rw [e] at h1; cases h1
      | own o2 => exact x.ownF i a o2 e h2
    · rw [put_out hi] at h1; exact x.ownF i a o h1 h2
  · obtain ⟨⟨o, q1⟩, q2⟩ := x.bor1 i a h
    refine ⟨?_, q2⟩
    by_cases hi : i ∈ lents as
    · obtain ⟨o', a', q3, _, _⟩ := put_in lq.1 L O hi (lq.2 i hi)
      rw [q3, q1]; exact ⟨o', rfl⟩
    · rw [put_out hi]; exact ⟨o, q1⟩
  · by_cases hi : i ∈ lents as
    · obtain ⟨o', a', q3, _, _⟩ := put_in lq.1 L O hi (lq.2 i hi)
      rw [q3] at h
      cases e : slot η i with
      | no => rw [e] at h; cases h
      | fz d => rw [e] at h; cases h
      | own o2 => rw [e] at h; cases h
      | bor o2 => exact x.bor2 i o2 e
    · rw [put_out hi] at h; exact x.bor2 i o h
  · refine ⟨X'.grow, fun a o h n t => keepN a o h (fun i hi z => n ⟨i, lq.2 i hi, z⟩) t, fun a h1 h2 _ => ?_, fun i h => by rw [← isO]; exact h, fun i h => ?_, put_len, trk⟩
    · cases e : Φ' a with
      | none => rfl
      | some u => exact absurd (frz a (by rw [e]; simp) h2) h1
    · by_cases hi : i ∈ lents as
      · obtain ⟨o', a', q3, _, _⟩ := put_in lq.1 L O hi (lq.2 i hi)
        rw [q3] at h
        cases e : slot η i with
        | no => rfl
        | fz d => rw [e] at h; cases h
        | own o2 => rw [e] at h; cases h
        | bor o2 => rw [e] at h; cases h
      · rw [put_out hi] at h; exact h
/-- an exception of the callee's is one of the caller's -/
theorem call_exc {ED : Nat → D → Prop} {as : List Ar} {ads : List (Option Addr)} (x : Rep K b σ H Φ η) (lq : lentQ as η) (L : Lnk σ as ads) (hed : ∀ C d, ED C d → b.ED C d) : HE K ⟨b.T, H, Φ, ads, b.CL, b.E, ED⟩ := by
  intro n C what a v Φ' H' hn X' h1 h2 h3
  refine x.he n C what a v Φ' H' hn ⟨X'.held, X'.nt, x.grow.trans X'.grow, fun a o q1 q2 q3 => ?_, fun a h => x.still a (X'.still a h), fun a q1 q2 => ?_, X'.tabs⟩ h1 h2 (hed _ _ h3)
  · refine X'.kept a o (x.kept a o q1 q2 q3) (fun z => ?_) q3
    obtain ⟨j, hj⟩ := List.mem_iff_getElem?.mp z
    obtain ⟨i, _, hi, hv⟩ := L.at hj
    have ho := lq.2 i hi
    cases e : slot η i with
    | no => rw [e] at ho; cases ho
    | fz d => rw [e] at ho; cases ho
    | own o' => rw [x.ownF i a o' e hv] at q1; cases q1
    | bor o' =>
      obtain ⟨a', h'⟩ := x.bor2 i o' e
      have z' := (x.bor1 i a' h').2
      rw [hv] at z'; cases z'
      exact q2 (List.mem_of_getElem? h')
  · cases e : Φ a with
    | none => exact x.still a (X'.frz0 a q1 e)
    | some u => exact x.frz0 a (by rw [e]; simp) q2
theorem call_can {E : XK} {ED : Nat → D → Prop} {sp : DSp} {H0 Φ0 : Hp} {η0 : En} {as : List Ar} {vs : List V} {Qd : Rv → En → Prop} {Qh : VK} (x : Rep K b σ H Φ η) (S : Stp σ H0 Φ0 η0 H Φ η) (rs : ArsR K σ Φ as vs) (q : callQ sp ED as η Qd)
    (hE : ∀ ads, Lnk σ as ads → lentQ as η → HE K ⟨b.T, H, Φ, ads, b.CL, E, ED⟩)
    (k : ∀ v H' Φ' η' r, Rep K b σ H' Φ' η' → Stp σ H0 Φ0 η0 H' Φ' η' → RvR K σ H0 H' Φ' η' r v → Qd r η' → Qh v H') : spD K b.T b.CL sp vs H Qh E := by
  obtain ⟨lq, q⟩ := q
  obtain ⟨ads, A, L⟩ := args_ok x rs lq.2
  refine ⟨Φ, ads, argsOf η as, _, ED, x.held, x.nt, x.tabs, A, fun i j a h1 h2 => ?_, q, hE ads L lq, fun v H' Φ' r outs X' O rr qn => ?_⟩
  · obtain ⟨i1, e1, m1, v1⟩ := L.at h1
    obtain ⟨i2, e2, m2, v2⟩ := L.at h2
    have e := x.sep i1 i2 a (lq.2 _ m1) (lq.2 _ m2) v1 v2
    subst e
    exact lents_at lq.1 e2 e1
  · obtain ⟨x', S'⟩ := call_after x lq L X' O
    have S2 := S.trans S'
    have rv : RvR K σ H0 H' Φ' (putB as outs η) r v := by
      cases r with
      | fz d => exact rr
      | own o =>
        obtain ⟨a, e, c, f0⟩ := rr
        have f1 : H0 a = none := by
          cases e : H0 a with
          | none => rfl
          | some u => exact absurd f0 (S.trk a (by rw [e]; simp))
        refine ⟨a, e, c, f1, fun ⟨i, h1, h2⟩ => ?_⟩
        exact (x.of_ow ⟨i, S'.sub i h1, h2⟩).2 f0
      | «at» i => exact rr.elim
    exact k v H' Φ' _ r x' S2 rv qn
end

section
variable {X : Cx} {b : Bs} {k : Nat} {f : Addr} {fd : FuncData} {ps ks : List Str} {sp : DSp} {x : Str} {p pos : Pos} {e : Expr} {es : List Expr} {ta : DTA}
/-- f(..), nothing raised -/
theorem de_call (F : FnOk X.prog X.w X.K X.mg X.base (L2.CX X.prog X.w) k f fd ps (spD X.K b.T b.CL sp)) (hr : Room k X.A) (hg : Gl X x) (hm : X.mg x = some (.ref f)) (hk : PySem.W.keepIn X.K (.ref f) = true) (hb : Binds X.K fd ps [])
    (ha : DA X b (e :: es) ta) (hdb : (x == ("__debug__" : Str)) = false := by decide) (he : starEach (e :: es) X.env = (false, eval e X.env) :: starEach es X.env := by rfl) (hpl : (backTo pos (starEach es X.env)).any (·.1) = false := by rfl) :
    DE X b (.Call (.Name x p) (e :: es) [] pos) (dCall sp ED0 ta) := by
  refine ⟨pe_imp (pe_call F hr hg hm hk hb .nil (passL (X := X)) ha.pa hdb he hpl) fun σ H Q h => ?_⟩
  obtain ⟨Φ, η, Qd, x, q, k⟩ := h
  refine ⟨Φ, η, _, x, q, fun vs H1 Φ1 η1 as x1 S1 rs q1 => ?_⟩
  show spD X.K b.T b.CL sp (vs ++ []) H1 Q E0
  rw [List.append_nil]
  exact call_can x1 S1 rs q1 (fun ads L lq n C what a v Φ' H' _ _ _ _ z => z.elim) k
/-- f(..) that may raise -/
theorem de_callX (tk : Takes X (fun cls d _ H => b.E cls d H)) (F : FnOk X.prog X.w X.K X.mg X.base (L2.CX X.prog X.w) k f fd ps (spD X.K b.T b.CL sp)) (hr : Room k X.A) (hg : Gl X x) (hm : X.mg x = some (.ref f)) (hk : PySem.W.keepIn X.K (.ref f) = true) (hb : Binds X.K fd ps [])
    (ha : DA X b (e :: es) ta) (hdb : (x == ("__debug__" : Str)) = false := by decide) (he : starEach (e :: es) X.env = (false, eval e X.env) :: starEach es X.env := by rfl) (hpl : (backTo pos (starEach es X.env)).any (·.1) = false := by rfl) :
    DE X b (.Call (.Name x p) (e :: es) [] pos) (dCall sp b.ED ta) := by
  refine ⟨pe_imp (pe_call F hr hg hm hk hb .nil (passes_call tk (fun _ _ _ _ h => h)) ha.pa hdb he hpl) fun σ H Q h => ?_⟩
  obtain ⟨Φ, η, Qd, x, q, k⟩ := h
  refine ⟨Φ, η, _, x, q, fun vs H1 Φ1 η1 as x1 S1 rs q1 => ?_⟩
  show spD X.K b.T b.CL sp (vs ++ []) H1 Q b.E
  rw [List.append_nil]
  exact call_can x1 S1 rs q1 (fun ads L lq => call_exc x1 lq L fun _ _ h => h) k
structure DK (X : Cx) (b : Bs) (kws : List Keyword) (td : DTA) : Prop where
  pk : PK X kws (canA X.K b td)
variable {kws : List Keyword} {nm : Option Str} {kpos : Pos} {t : DTE}
theorem dk_nil : DK X b [] dNil := ⟨⟨fun pos pins s σ H Q I h => by
  obtain ⟨Φ, η, Qd, x, q, k⟩ := h
  exact L2.pk_nil.run pos pins s σ H Q I (k [] H Φ η [] x .refl rfl q)⟩⟩
theorem dk_cons (he : DE X b e t) (hr : DK X b kws ta) : DK X b (⟨nm, e, kpos⟩ :: kws) (dCons t ta) := by
  refine ⟨⟨fun pos pins s σ H Q I h => (L2.pk_cons he.pe hr.pk).run pos pins s σ H Q I ?_⟩⟩
  obtain ⟨Φ, η, Qd, x, q, k⟩ := h
  refine ⟨Φ, η, _, x, q, fun v H1 Φ1 η1 r x1 S1 rv q1 => ?_⟩
  obtain ⟨d, Φ2, η2, x2, S2, rr, q2⟩ := frz_ok x x1 S1 rv q1
  refine ⟨Φ2, η2, _, x2, q2, fun vs H3 Φ3 η3 as x3 S3 rs q3 => ?_⟩
  exact k (v :: vs) H3 Φ3 η3 (.d d :: as) x3 (S2.trans S3) ⟨v, vs, rfl, rr.mono S3.le, rs⟩ q3
/-- pick by places -/
def pick {α : Type} (ix : List Nat) (l : List α) : List α := ix.filterMap fun i => l[i]?
theorem ArsR.app {K : PySem.W.Frag} {σ : L2.St} {Φ : Hp} : ∀ {as bs : List Ar} {vs ws : List V}, ArsR K σ Φ as vs → ArsR K σ Φ bs ws → ArsR K σ Φ (as ++ bs) (vs ++ ws)
  | [], bs, vs, ws, h, q => by rw [show vs = [] from h]; exact q
  | a :: as, bs, vs, ws, h, q => by
    obtain ⟨v, r, rfl, h1, h2⟩ := h
    exact ⟨v, r ++ ws, rfl, h1, ArsR.app h2 q⟩
theorem ArsR.get {K : PySem.W.Frag} {σ : L2.St} {Φ : Hp} : ∀ {as : List Ar} {vs : List V} (i : Nat), ArsR K σ Φ as vs → (∃ a v, as[i]? = some a ∧ vs[i]? = some v ∧ ArR K σ Φ a v) ∨ (as[i]? = none ∧ vs[i]? = none)
  | [], vs, i, h => by rw [show vs = [] from h]; simp
  | a :: as, vs, 0, h => by obtain ⟨v, r, rfl, h1, h2⟩ := h; exact .inl ⟨a, v, rfl, rfl, h1⟩
  | a :: as, vs, i + 1, h => by
    obtain ⟨v, r, rfl, h1, h2⟩ := h
    simpa using ArsR.get i h2
theorem ArsR.pick {K : PySem.W.Frag} {σ : L2.St} {Φ : Hp} {as : List Ar} {vs : List V} (h : ArsR K σ Φ as vs) : ∀ ix : List Nat, ArsR K σ Φ (DL.pick ix as) (DL.pick ix vs)
  | [] => rfl
  | i :: ix => by
    unfold DL.pick
    rw [List.filterMap_cons, List.filterMap_cons]
    rcases h.get i with ⟨a, v, e1, e2, r⟩ | ⟨e1, e2⟩
    · rw [e1, e2]; exact ⟨v, _, rfl, r, ArsR.pick h ix⟩
    · rw [e1, e2]; exact ArsR.pick h ix
theorem paired_get {α β : Type} {F : α → β → Prop} : ∀ {l : List α} {m : List β} (i : Nat), Paired F l m → (∃ a v, l[i]? = some a ∧ m[i]? = some v ∧ F a v) ∨ (l[i]? = none ∧ m[i]? = none)
  | _, _, i, .nil => by simp
  | _, _, 0, .cons r t => .inl ⟨_, _, rfl, rfl, r⟩
  | _, _, i + 1, .cons r t => by simpa using paired_get i t
theorem vals_pick {vs : List V} {us : List Value} (h : Vals vs us) : ∀ ix : List Nat, Vals (DL.pick ix vs) (DL.pick ix us)
  | [] => .nil
  | i :: ix => by
    unfold DL.pick
    rw [List.filterMap_cons, List.filterMap_cons]
    rcases paired_get i h with ⟨a, v, e1, e2, r⟩ | ⟨e1, e2⟩
    · rw [e1, e2]; exact .cons r (vals_pick h ix)
    · rw [e1, e2]; exact vals_pick h ix
theorem pe_callK0 {CX : CXT} {E : XK} {g : List Value → List Value → List Value} {gV : List V → List V → List V} {tk : TA} {sp : Sp} (F : FnOk X.prog X.w X.K X.mg X.base CX k f fd ps sp) (hr : Room k X.A) (hg : Gl X x) (hm : X.mg x = some (.ref f)) (hk : PySem.W.keepIn X.K (.ref f) = true) (hb : KBinds X.K fd ps ks g gV) (hx : Passes CX X E)
    (hkw : PK X kws tk) (hall : (backToKw pos (keywordEach kws X.env)).all (·.1.isSome) = true := by rfl) (hks : (backToKw pos (keywordEach kws X.env)).filterMap (·.1) = ks := by rfl)
    (hdb : (x == ("__debug__" : Str)) = false := by decide) (hpl : ((backTo pos (starEach [] X.env)).any (·.1) || (backToKw pos (keywordEach kws X.env)).any (·.1.isNone)) = false := by rfl) :
    PE X (.Call (.Name x p) [] kws pos) (tCallK sp gV E tNil tk) := by
  refine ⟨fun pins s σ H Q I h => ?_⟩
  refine wpAny_Call_Name_kw (ld_glob I hg hm ?_ hdb)
  refine PySem.W.callWith_KW0 (h₀ := X.base) I.ok.mod.kin hk hall ?_ hpl
  refine thn (hkw.run pos pins s σ H _ I h) fun ws s2 ⟨zs, H2, I2, rz, q2⟩ => ⟨I2.kIn, ?_⟩
  rw [hks]
  exact run_fnk F hr hb hx I2 .nil rz q2
/-- the positional ones, n of them, then the keywords', m; put in the parameters' order by ix -/
def kg {α : Type} (n m : Nat) (ix : List Nat) (us ws : List α) : List α := if us.length = n ∧ ws.length = m then pick ix (us ++ ws) else []
theorem kb_mk {n m : Nat} {ix : List Nat} {q : Str} {st : Stmt} (F : Fun X.K x q st f fd) (h0 : ps ≠ []) (h : ∀ (kV doc pm : Value) (an : Option Addr) (cdv ct : Value) (us ws : List Value), us.length = n → ws.length = m →
    bindArgs (PySem.W.fnOf x q (defArgs st) (defBody st) (defScope st) .none kV doc pm an cdv ct) ⟨us, ks.zip ws⟩ = pure (ps.zip (pick ix (us ++ ws)))) : KBinds X.K fd ps ks (kg n m ix) (kg n m ix) := by
  refine ⟨fun s us ws _ hl => ?_, fun {vs us zs ws} r1 r2 => ?_⟩
  · unfold kg at hl ⊢
    by_cases c : us.length = n ∧ ws.length = m
    · rw [if_pos c] at hl ⊢
      obtain ⟨oc, od, kV, doc, pm, an, cdv, ct, osl, rfl, lk, hcd⟩ := F.ex
      exact .of_eq (h kV doc pm an cdv ct us ws c.1 c.2)
    · rw [if_neg c] at hl
      exact absurd (List.eq_nil_of_length_eq_zero hl.symm) h0
  · unfold kg
    by_cases c : us.length = n ∧ ws.length = m
    · rw [if_pos c, if_pos (by rw [r1.length, r2.length]; exact c)]
      exact vals_pick (r1.append r2) ix
    · rw [if_neg c, if_neg (by rw [r1.length, r2.length]; exact c)]
      exact .nil
def dCallKw (sp : DSp) (ED : Nat → D → Prop) (n m : Nat) (ix : List Nat) (ta tk : DTA) : DTE := fun η Q => ta η fun as η1 => tk η1 fun ks η2 => (as.length = n ∧ ks.length = m) ∧ callQ sp ED (pick ix (as ++ ks)) η2 Q
theorem ArsR.length {K : PySem.W.Frag} {σ : L2.St} {Φ : Hp} : ∀ {as : List Ar} {vs : List V}, ArsR K σ Φ as vs → as.length = vs.length
  | [], vs, h => by rw [show vs = [] from h]; rfl
  | a :: as, vs, h => by obtain ⟨v, r, rfl, _, q⟩ := h; simp [q.length]
theorem kw_can {n m : Nat} {ix : List Nat} {E : XK} {ED : Nat → D → Prop} {tk : DTA} {σ : L2.St} {H : Hp} {Q : VK} (hE : ∀ σ H Φ η as ads, Rep X.K b σ H Φ η → Lnk σ as ads → lentQ as η → HE X.K ⟨b.T, H, Φ, ads, b.CL, E, ED⟩)
    (h : canE X.K b (dCallKw sp ED n m ix ta tk) σ H Q) : tCallK (spD X.K b.T b.CL sp) (kg n m ix) E (canA X.K b ta) (canA X.K b tk) σ H Q := by
  obtain ⟨Φ, η, Qd, x, q, k⟩ := h
  refine ⟨Φ, η, _, x, q, fun vs H1 Φ1 η1 as x1 S1 rs q1 => ?_⟩
  refine ⟨Φ1, η1, _, x1, q1, fun zs H2 Φ2 η2 ks x2 S2 rz q2 => ?_⟩
  obtain ⟨⟨hn, hm⟩, q3⟩ := q2
  have rs2 : ArsR X.K σ Φ2 (as ++ ks) (vs ++ zs) := (rs.step S2.le).app rz
  have e : kg n m ix vs zs = pick ix (vs ++ zs) := by
    unfold kg
    rw [if_pos ⟨by rw [← rs.length]; exact hn, by rw [← rz.length]; exact hm⟩]
  show spD X.K b.T b.CL sp (kg n m ix vs zs) H2 Q E
  rw [e]
  exact call_can x2 (S1.trans S2) (rs2.pick ix) q3 (fun ads L lq => hE _ _ _ _ _ _ x2 L lq) k
variable {n m : Nat} {ix : List Nat} {tk : DTA}
/-- f(.., k = ..) -/
theorem de_callK (F : FnOk X.prog X.w X.K X.mg X.base (L2.CX X.prog X.w) k f fd ps (spD X.K b.T b.CL sp)) (hr : Room k X.A) (hg : Gl X x) (hm : X.mg x = some (.ref f)) (hk : PySem.W.keepIn X.K (.ref f) = true) (hb : KBinds X.K fd ps ks (kg n m ix) (kg n m ix))
    (ha : DA X b (e :: es) ta) (hkw : DK X b kws tk) (hall : (backToKw pos (keywordEach kws X.env)).all (·.1.isSome) = true := by rfl) (hks : (backToKw pos (keywordEach kws X.env)).filterMap (·.1) = ks := by rfl)
    (hdb : (x == ("__debug__" : Str)) = false := by decide) (he : starEach (e :: es) X.env = (false, eval e X.env) :: starEach es X.env := by rfl)
    (hpl : ((backTo pos (starEach (e :: es) X.env)).any (·.1) || (backToKw pos (keywordEach kws X.env)).any (·.1.isNone)) = false := by rfl) : DE X b (.Call (.Name x p) (e :: es) kws pos) (dCallKw sp ED0 n m ix ta tk) :=
  ⟨pe_imp (pe_callK F hr hg hm hk hb (passL (X := X)) ha.pa hkw.pk hall hks hdb he hpl) fun σ H Q h => kw_can (fun σ H Φ η as ads _ _ _ n C what a v Φ' H' _ _ _ _ z => z.elim) h⟩
theorem de_callKX (tkx : Takes X (fun cls d _ H => b.E cls d H)) (F : FnOk X.prog X.w X.K X.mg X.base (L2.CX X.prog X.w) k f fd ps (spD X.K b.T b.CL sp)) (hr : Room k X.A) (hg : Gl X x) (hm : X.mg x = some (.ref f)) (hk : PySem.W.keepIn X.K (.ref f) = true) (hb : KBinds X.K fd ps ks (kg n m ix) (kg n m ix))
    (ha : DA X b (e :: es) ta) (hkw : DK X b kws tk) (hall : (backToKw pos (keywordEach kws X.env)).all (·.1.isSome) = true := by rfl) (hks : (backToKw pos (keywordEach kws X.env)).filterMap (·.1) = ks := by rfl)
    (hdb : (x == ("__debug__" : Str)) = false := by decide) (he : starEach (e :: es) X.env = (false, eval e X.env) :: starEach es X.env := by rfl)
    (hpl : ((backTo pos (starEach (e :: es) X.env)).any (·.1) || (backToKw pos (keywordEach kws X.env)).any (·.1.isNone)) = false := by rfl) : DE X b (.Call (.Name x p) (e :: es) kws pos) (dCallKw sp b.ED n m ix ta tk) :=
  ⟨pe_imp (pe_callK F hr hg hm hk hb (passes_call tkx (fun _ _ _ _ h => h)) ha.pa hkw.pk hall hks hdb he hpl) fun σ H Q h => kw_can (fun σ H Φ η as ads x L lq => call_exc x lq L fun _ _ h => h) h⟩
theorem de_callK0 (F : FnOk X.prog X.w X.K X.mg X.base (L2.CX X.prog X.w) k f fd ps (spD X.K b.T b.CL sp)) (hr : Room k X.A) (hg : Gl X x) (hm : X.mg x = some (.ref f)) (hk : PySem.W.keepIn X.K (.ref f) = true) (hb : KBinds X.K fd ps ks (kg 0 m ix) (kg 0 m ix))
    (hkw : DK X b kws tk) (hall : (backToKw pos (keywordEach kws X.env)).all (·.1.isSome) = true := by rfl) (hks : (backToKw pos (keywordEach kws X.env)).filterMap (·.1) = ks := by rfl)
    (hdb : (x == ("__debug__" : Str)) = false := by decide) (hpl : ((backTo pos (starEach [] X.env)).any (·.1) || (backToKw pos (keywordEach kws X.env)).any (·.1.isNone)) = false := by rfl) : DE X b (.Call (.Name x p) [] kws pos) (dCallKw sp ED0 0 m ix dNil tk) :=
  ⟨pe_imp (pe_callK0 F hr hg hm hk hb (passL (X := X)) hkw.pk hall hks hdb hpl) fun σ H Q h => by
    have q := kw_can (E := E0) (fun σ H Φ η as ads _ _ _ n C what a v Φ' H' _ _ _ _ z => z.elim) h
    obtain ⟨Φ, η, Qd, x, q', k⟩ := q
    exact k [] H Φ η [] x .refl rfl q'⟩
theorem de_callK0X (tkx : Takes X (fun cls d _ H => b.E cls d H)) (F : FnOk X.prog X.w X.K X.mg X.base (L2.CX X.prog X.w) k f fd ps (spD X.K b.T b.CL sp)) (hr : Room k X.A) (hg : Gl X x) (hm : X.mg x = some (.ref f)) (hk : PySem.W.keepIn X.K (.ref f) = true) (hb : KBinds X.K fd ps ks (kg 0 m ix) (kg 0 m ix))
    (hkw : DK X b kws tk) (hall : (backToKw pos (keywordEach kws X.env)).all (·.1.isSome) = true := by rfl) (hks : (backToKw pos (keywordEach kws X.env)).filterMap (·.1) = ks := by rfl)
    (hdb : (x == ("__debug__" : Str)) = false := by decide) (hpl : ((backTo pos (starEach [] X.env)).any (·.1) || (backToKw pos (keywordEach kws X.env)).any (·.1.isNone)) = false := by rfl) : DE X b (.Call (.Name x p) [] kws pos) (dCallKw sp b.ED 0 m ix dNil tk) :=
  ⟨pe_imp (pe_callK0 F hr hg hm hk hb (passes_call tkx (fun _ _ _ _ h => h)) hkw.pk hall hks hdb hpl) fun σ H Q h => by
    have q := kw_can (E := b.E) (fun σ H Φ η as ads x L lq => call_exc x lq L fun _ _ h => h) h
    obtain ⟨Φ, η, Qd, x, q', k⟩ := q
    exact k [] H Φ η [] x .refl rfl q'⟩
end
end DL

set_option Elab.async false
set_option linter.all false
set_option maxRecDepth 100000
namespace DL
open PySem PySem.Spec PyProof.Rows L2 LamX

section
variable {K : PySem.W.Frag} {b : Bs} {σ : L2.St} {H Φ H0 Φ0 : Hp} {η η0 : En} {a : Addr} {o o' : OC} {d : D} {r : Rv} {v : V} {u : HO} {i : Nat}
theorem set_out {α : Type} {l : List α} {i : Nat} {x : α} (h : ¬ i < l.length) : l.set i x = l := List.set_eq_of_length_le (by omega)
theorem getset_same {i : Nat} {x : Option V} (h : i < σ.length) : (σ.set i x)[i]? = some x := by rw [List.getElem?_set_self h]
theorem getset_ne {i j : Nat} {x : Option V} (h : j ≠ i) : (σ.set i x)[j]? = σ[j]? := by rw [List.getElem?_set_ne (Ne.symm h)]

/-- a name is bound -/
theorem Rep.assign {s : Sl} (x : Rep K b σ H Φ η) (nb : ∀ o, slot η i ≠ .bor o) (hs : SlR K H Φ s (some v)) (sb : ∀ o, s ≠ .bor o) (so : ∀ o, s = .own o → ∃ a, v = .ref a ∧ b.H a = none ∧ ¬ Ow σ η a) : Rep K b (σ.set i (some v)) H Φ (η.set i s) := by
  by_cases il : i < η.length
  case neg =>
    rw [set_out il, set_out (by rw [x.len]; exact il)]
    exact x
  have il' : i < σ.length := by rw [x.len]; exact il
  have noO : ∀ j a, s.isOwn = true → v = .ref a → (slot η j).isOwn = true → σ[j]? ≠ some (some (.ref a)) := fun j a h1 h2 h3 h4 => by
    cases e : s with
    | no => rw [e] at h1; cases h1
    | fz d => rw [e] at h1; cases h1
    | bor o => exact sb o e
    | own o =>
      obtain ⟨a', e1, _, n⟩ := so o e
      rw [h2] at e1; cases e1
      exact n ⟨j, h3, h4⟩
  refine { toExt := x.toExt, len := by rw [List.length_set, List.length_set]; exact x.len, sl := fun j => ?_, sep := fun j k a h1 h2 e1 e2 => ?_, ownF := fun j a o h1 h2 => ?_, bor1 := fun j a h => ?_, bor2 := fun j o h => ?_, he := x.he }
  · by_cases hj : j = i
    · rw [hj, slot_set_same il, getset_same il']; exact hs
    · rw [slot_set_ne hj, getset_ne hj]; exact x.sl j
  · by_cases hj : j = i
    · by_cases hk : k = i
      · rw [hj, hk]
      · rw [hj, slot_set_same il] at h1
        rw [hj, getset_same il'] at e1
        rw [slot_set_ne hk] at h2
        rw [getset_ne hk] at e2
        simp at e1
        exact absurd e2 (noO k a h1 e1 h2)
    · by_cases hk : k = i
      · rw [hk, slot_set_same il] at h2
        rw [hk, getset_same il'] at e2
        rw [slot_set_ne hj] at h1
        rw [getset_ne hj] at e1
        simp at e2
        exact absurd e1 (noO j a h2 e2 h1)
      · rw [slot_set_ne hj] at h1
        rw [slot_set_ne hk] at h2
        rw [getset_ne hj] at e1
        rw [getset_ne hk] at e2
        exact x.sep j k a h1 h2 e1 e2
  · by_cases hj : j = i
    · rw [hj, slot_set_same il] at h1
      rw [hj, getset_same il'] at h2
      obtain ⟨a', e1, f, _⟩ := so o h1
      simp at h2
      rw [h2] at e1; cases e1
      exact f
    · rw [slot_set_ne hj] at h1
      rw [getset_ne hj] at h2
      exact x.ownF j a o h1 h2
  · obtain ⟨⟨o, q1⟩, q2⟩ := x.bor1 j a h
    have hj : j ≠ i := fun z => nb o (z ▸ q1)
    exact ⟨⟨o, by rw [slot_set_ne hj]; exact q1⟩, by rw [getset_ne hj]; exact q2⟩
  · by_cases hj : j = i
    · rw [hj, slot_set_same il] at h; exact absurd h (sb o)
    · rw [slot_set_ne hj] at h; exact x.bor2 j o h

/-- a name's object is changed -/
theorem Rep.write (x : Rep K b σ H Φ η) (ho : (slot η i).isOwn = true) (hv : σ[i]? = some (some (.ref a))) (t : ∀ ps, u ≠ .tbl ps) (c : OcR K (upd H a u) Φ o' a) :
    Rep K b σ (upd H a u) Φ (η.set i (reS (slot η i) o')) ∧ Stp σ H Φ η (upd H a u) Φ (η.set i (reS (slot η i) o')) := by
  have il : i < η.length := slot_lt fun z => by rw [z] at ho; cases ho
  have ow : Ow σ η a := ⟨i, ho, hv⟩
  obtain ⟨nf, ht⟩ := x.of_ow ow
  have isO : ∀ j, (slot (η.set i (reS (slot η i) o')) j).isOwn = (slot η j).isOwn := fun j => by
    by_cases hj : j = i
    · rw [hj, slot_set_same il, reS_own]
    · rw [slot_set_ne hj]
  have trk : ∀ c, H c ≠ none → upd H a u c ≠ none := fun c h => upd_some h
  have nsl : ∀ ps, H a ≠ some (.tbl ps) := fun ps z => by
    have q := x.sl i
    rw [some_join hv] at q
    cases e : slot η i with
    | no => rw [e] at ho; cases ho
    | fz d => rw [e] at ho; cases ho
    | own o =>
      rw [e] at q
      obtain ⟨a', e', c'⟩ := q
      cases e'
      obtain ⟨u', hu, t'⟩ := c'.there
      rw [hu] at z; exact t' ps (Option.some.inj z)
    | bor o =>
      rw [e] at q
      obtain ⟨a', e', c'⟩ := q
      cases e'
      obtain ⟨u', hu, t'⟩ := c'.there
      rw [hu] at z; exact t' ps (Option.some.inj z)
  have notB : ∀ e : Addr, b.H e ≠ none → some e ∉ b.args → e ≠ a := fun e0 h1 h2 z => by
    rw [z] at h1 h2
    cases e : slot η i with
    | no => rw [e] at ho; cases ho
    | fz d => rw [e] at ho; cases ho
    | own o => exact h1 (x.ownF i a o e hv)
    | bor o =>
      obtain ⟨a', h'⟩ := x.bor2 i o e
      have z' := (x.bor1 i a' h').2
      rw [hv] at z'; cases z'
      exact h2 (List.mem_of_getElem? h')
  refine ⟨{ held := fun c o h => ?_, nt := x.nt, grow := x.grow, kept := fun c o h1 h2 h3 => ?_, still := fun c h => x.still c ?_, frz0 := x.frz0, tabs := ?_, len := by rw [List.length_set]; exact x.len, sl := fun j => ?_,
            sep := fun j k c h1 h2 => x.sep j k c (by rw [← isO]; exact h1) (by rw [← isO]; exact h2), ownF := fun j c o h1 h2 => ?_, bor1 := fun j c h => ?_, bor2 := fun j o h => ?_, he := x.he }, ?_⟩
  · have : c ≠ a := fun z => by rw [z, nf] at h; cases h
    rw [upd_ne this]; exact x.held c o h
  · rw [upd_ne (notB c (by rw [h1]; simp) h2)]; exact x.kept c o h1 h2 h3
  · cases e : H c with
    | none => rfl
    | some o => exact absurd h (trk c (by rw [e]; simp))
  · intro p hp
    obtain ⟨ps, h1, h2, h3⟩ := x.tabs p hp
    have np : p.1 ≠ a := fun z => nsl ps (by rw [← z]; exact h1)
    refine ⟨ps, by rw [upd_ne np]; exact h1, h2, fun pos cv hc => ?_⟩
    obtain ⟨c0, e1, e2⟩ := h3 pos cv hc
    refine ⟨c0, e1, ?_⟩
    have nc : c0 ≠ a := fun z => by
      have q := x.sl i
      rw [some_join hv] at q
      have no : ∀ o, OcR K H Φ o a → False := fun o c' => by
        cases o with
        | lst ds => obtain ⟨_, vs, e, _⟩ := c'; rw [← z, e2] at e; cases e
        | dct ks ds => obtain ⟨_, vs, e, _⟩ := c'; rw [← z, e2] at e; cases e
      cases e : slot η i with
      | no => rw [e] at ho; cases ho
      | fz d => rw [e] at ho; cases ho
      | own o =>
        rw [e] at q
        obtain ⟨a', e', c'⟩ := q
        cases e'
        exact no o c'
      | bor o =>
        rw [e] at q
        obtain ⟨a', e', c'⟩ := q
        cases e'
        exact no o c'
    rw [upd_ne nc]; exact e2
  · by_cases hj : j = i
    · rw [hj, slot_set_same il, some_join hv]
      cases e : slot η i with
      | no => rw [e] at ho; cases ho
      | fz d => rw [e] at ho; cases ho
      | own o => exact ⟨a, rfl, c⟩
      | bor o => exact ⟨a, rfl, c⟩
    · rw [slot_set_ne hj]
      have q := x.sl j
      have own : ∀ o a', σ[j]?.join = some (.ref a') → (slot η j).isOwn = true → OcR K H Φ o a' → OcR K (upd H a u) Φ o a' := fun o a' e1 e2 c' => by
        refine c'.step (fun _ _ h => h) (fun w e _ => ?_) c'.nf
        have ne : a' ≠ a := fun z => hj (x.sep j i a e2 ho (by rw [← z]; exact join_some e1) hv)
        rw [upd_ne ne]; exact e
      cases e : slot η j with
      | no => trivial
      | fz d => rw [e] at q; exact q
      | own o =>
        rw [e] at q
        obtain ⟨a', h1, h2⟩ := q
        exact ⟨a', h1, own o a' h1 (by rw [e]; rfl) h2⟩
      | bor o =>
        rw [e] at q
        obtain ⟨a', h1, h2⟩ := q
        exact ⟨a', h1, own o a' h1 (by rw [e]; rfl) h2⟩
  · by_cases hj : j = i
    · rw [hj, slot_set_same il] at h1
      cases e : slot η i with
      | no => rw [e] at ho; cases ho
      | fz d => rw [e] at ho; cases ho
      | own o2 => exact x.ownF i c o2 e (hj ▸ h2)
      | bor o2 => rw [e] at h1; cases h1
    · rw [slot_set_ne hj] at h1; exact x.ownF j c o h1 h2
  · obtain ⟨⟨o, q1⟩, q2⟩ := x.bor1 j c h
    refine ⟨?_, q2⟩
    by_cases hj : j = i
    · rw [hj, slot_set_same il]
      rw [hj] at q1
      rw [q1]; exact ⟨o', rfl⟩
    · rw [slot_set_ne hj]; exact ⟨o, q1⟩
  · by_cases hj : j = i
    · rw [hj, slot_set_same il] at h
      cases e : slot η i with
      | no => rw [e] at h; cases h
      | fz d => rw [e] at h; cases h
      | own o2 => rw [e] at h; cases h
      | bor o2 => rw [hj]; exact x.bor2 i o2 e
    · rw [slot_set_ne hj] at h; exact x.bor2 j o h
  · refine ⟨fun _ _ h => h, fun c o h n _ => ?_, fun c _ f _ => f, fun j h => by rw [← isO]; exact h, fun j h => ?_, List.length_set .., trk⟩
    · have : c ≠ a := fun z => n (z ▸ ow)
      rw [upd_ne this]; exact h
    · by_cases hj : j = i
      · rw [hj, slot_set_same il] at h
        cases e : slot η i with
        | no => rw [hj]; exact e
        | fz d => rw [e] at h; cases h
        | own o2 => rw [e] at h; cases h
        | bor o2 => rw [e] at h; cases h
      · rw [slot_set_ne hj] at h; exact h
end

section
variable {X : Cx} {b : Bs} {st : Stmt} {sts : List Stmt} {e c : Expr} {t : DTE} {tt : DTT} {ts us : DTS} {pos : Pos}
def dNext : DTS := fun D η => D.nx η
def dSeq (t u : DTS) : DTS := fun D η => t { D with nx := u D } η
theorem dss_nil : DSs X b [] dNext := ⟨pss_imp pss_nil fun D σ H h => by
  obtain ⟨Φ, η, Dd, x, q, k, _⟩ := h
  exact k σ H Φ η x (Same.refl Φ) q⟩
theorem dss_cons (h1 : DS X b st ts) (h2 : DSs X b sts us) : DSs X b (st :: sts) (dSeq ts us) := ⟨pss_imp (pss_cons h1.ps h2.pss) fun D σ H h => by
  obtain ⟨Φ, η, Dd, x, q, k1, k2, k3, k4⟩ := h
  exact ⟨Φ, η, { Dd with nx := us Dd }, x, q, fun σ' H' Φ' η' x' le q' => ⟨Φ', η', Dd, x', q', fun σ2 H2 Φ2 η2 x2 le2 => k1 σ2 H2 Φ2 η2 x2 (le.trans le2), k2, fun σ2 H2 Φ2 η2 x2 le2 => k3 σ2 H2 Φ2 η2 x2 (le.trans le2), fun σ2 H2 Φ2 η2 x2 le2 => k4 σ2 H2 Φ2 η2 x2 (le.trans le2)⟩, k2, k3, k4⟩⟩
theorem dss_one (h1 : DS X b st ts) : DSs X b [st] ts := ⟨pss_one h1.ps⟩
theorem ds_pass : DS X b (.Pass pos) dNext := ⟨ps_imp ps_pass fun D σ H h => by
  obtain ⟨Φ, η, Dd, x, q, k, _⟩ := h
  exact k σ H Φ η x (Same.refl Φ) q⟩
def dBrk : DTS := fun D η => D.bk η
def dCnt : DTS := fun D η => D.ct η
theorem ds_brk : DS X b (.Break pos) dBrk := ⟨ps_imp ps_break fun D σ H h => by
  obtain ⟨Φ, η, Dd, x, q, _, _, k, _⟩ := h
  exact k σ H Φ η x (Same.refl Φ) q⟩
theorem ds_cnt : DS X b (.Continue pos) dCnt := ⟨ps_imp ps_continue fun D σ H h => by
  obtain ⟨Φ, η, Dd, x, q, _, _, _, k⟩ := h
  exact k σ H Φ η x (Same.refl Φ) q⟩
def dDrop (t : DTE) : DTS := fun D η => t η fun _ η1 => D.nx η1
theorem ds_expr (he : DE X b e t) (hs : swapsWith e none pos.line X.env = pure false := by rfl) : DS X b (.Expr e pos) (dDrop t) := ⟨ps_imp (ps_expr he.pe hs) fun D σ H h => by
  obtain ⟨Φ, η, Dd, x, q, k, _⟩ := h
  exact ⟨Φ, η, _, x, q, fun v H1 Φ1 η1 r x1 S1 rv q1 => k σ H1 Φ1 η1 x1 S1.le q1⟩⟩
def dRet (t : DTE) : DTS := fun D η => t η D.rt
theorem rv_top {K : PySem.W.Frag} {σ : L2.St} {H0 H Φ Φ0 : Hp} {η η0 : En} {r : Rv} {v : V} (x0 : Rep K b σ H0 Φ0 η0) (h : RvR K σ H0 H Φ η r v) : RvR K σ b.H H Φ η r v :=
  h.back fun a z w => z (x0.still a w)
theorem ds_ret (he : DE X b e t) : DS X b (.Return (some e) pos) (dRet t) := ⟨ps_imp (ps_ret he.pe) fun D σ H h => by
  obtain ⟨Φ, η, Dd, x, q, _, k, _⟩ := h
  exact ⟨Φ, η, _, x, q, fun v H1 Φ1 η1 r x1 S1 rv q1 => k v σ H1 Φ1 η1 r x1 (rv.back fun a z w => z (x.still a w)) q1⟩⟩
def dRetN : DTS := fun D η => D.rt (.fz .non) η
theorem ds_retN : DS X b (.Return none pos) dRetN := ⟨ps_imp ps_retN fun D σ H h => by
  obtain ⟨Φ, η, Dd, x, q, _, k, _⟩ := h
  exact k .non σ H Φ η (.fz .non) x rfl q⟩
def dIfS (tt : DTT) (t u : DTS) : DTS := fun D η => tt η fun k η1 => if k = true then t D η1 else u D η1
theorem ds_if {sa sb : List Stmt} (hc : DT X b c tt) (ha : DSs X b sa ts) (hb : DSs X b sb us) : DS X b (.If c sa sb pos) (dIfS tt ts us) := ⟨ps_imp (ps_if hc.pt ha.pss hb.pss) fun D σ H h => by
  obtain ⟨Φ, η, Dd, x, q, k1, k2, k3, k4⟩ := h
  refine ⟨Φ, η, _, x, q, fun kk H1 Φ1 η1 x1 S1 q1 => ?_⟩
  cases kk with
  | true => rw [if_pos rfl] at q1 ⊢; exact ⟨Φ1, η1, Dd, x1, q1, fun σ2 H2 Φ2 η2 x2 le2 => k1 σ2 H2 Φ2 η2 x2 (S1.le.trans le2), k2, fun σ2 H2 Φ2 η2 x2 le2 => k3 σ2 H2 Φ2 η2 x2 (S1.le.trans le2), fun σ2 H2 Φ2 η2 x2 le2 => k4 σ2 H2 Φ2 η2 x2 (S1.le.trans le2)⟩
  | false => rw [if_neg Bool.false_ne_true] at q1 ⊢; exact ⟨Φ1, η1, Dd, x1, q1, fun σ2 H2 Φ2 η2 x2 le2 => k1 σ2 H2 Φ2 η2 x2 (S1.le.trans le2), k2, fun σ2 H2 Φ2 η2 x2 le2 => k3 σ2 H2 Φ2 η2 x2 (S1.le.trans le2), fun σ2 H2 Φ2 η2 x2 le2 => k4 σ2 H2 Φ2 η2 x2 (S1.le.trans le2)⟩⟩
/-- code that is never reached -/
def dNever : DTS := fun _ _ => False
theorem ds_never : DS X b st dNever := ⟨ps_imp ps_never fun D σ H h => by
  obtain ⟨Φ, η, Dd, x, q, _⟩ := h
  exact q.elim⟩
theorem dss_never : DSs X b sts dNever := ⟨pss_imp pss_never fun D σ H h => by
  obtain ⟨Φ, η, Dd, x, q, _⟩ := h
  exact q.elim⟩

def notBor : Sl → Bool
  | .bor _ => false
  | _ => true
theorem nb_of {η : En} {i : Nat} (h : notBor (slot η i) = true) : ∀ o, slot η i ≠ .bor o := fun o z => by rw [z] at h; cases h
/-- bound to data -/
def setF (i : Nat) (r : Rv) (η : En) (Q : En → Prop) : Prop := notBor (slot η i) = true ∧ frzQ r η fun d η1 => Q (η1.set i (.fz d))
/-- bound to an object of its own, or to data -/
def setO (i : Nat) (r : Rv) (η : En) (Q : En → Prop) : Prop := notBor (slot η i) = true ∧ match r with
  | .own o => Q (η.set i (.own o))
  | r => frzQ r η fun d η1 => Q (η1.set i (.fz d))
theorem frz_nb {K : PySem.W.Frag} {σ : L2.St} {H0 Φ0 H Φ Φ' : Hp} {η0 η η' : En} {i : Nat} (S : Stp σ H Φ η H Φ' η') (x : Rep K b σ H Φ η) (x' : Rep K b σ H Φ' η') (h : ∀ o, slot η i ≠ .bor o) : ∀ o, slot η' i ≠ .bor o := fun o z => by
  obtain ⟨a, q⟩ := x'.bor2 i o z
  obtain ⟨⟨o', w⟩, _⟩ := x.bor1 i a q
  exact h o' w
theorem setF_ok {K : PySem.W.Frag} {σ : L2.St} {H0 Φ0 H Φ : Hp} {η0 η : En} {i : Nat} {r : Rv} {v : V} {Q : En → Prop} (x0 : Rep K b σ H0 Φ0 η0) (x : Rep K b σ H Φ η) (S : Stp σ H0 Φ0 η0 H Φ η) (rv : RvR K σ H0 H Φ η r v) (q : setF i r η Q) :
    ∃ Φ' η', Rep K b (σ.set i (some v)) H Φ' η' ∧ Same Φ0 Φ' ∧ Q η' := by
  obtain ⟨nb, q⟩ := q
  obtain ⟨d, Φ2, η2, x2, S2, rr, q2⟩ := frz_ok x0 x S rv q
  have nb2 : ∀ o, slot η2 i ≠ .bor o := fun o z => by
    obtain ⟨a, h⟩ := x2.bor2 i o z
    obtain ⟨⟨o', w⟩, _⟩ := x.bor1 i a h
    exact nb_of nb o' w
  exact ⟨Φ2, _, x2.assign (s := .fz d) nb2 ⟨v, rfl, rr⟩ (fun o z => by cases z) (fun o z => by cases z), S2.le, q2⟩
theorem setO_ok {K : PySem.W.Frag} {σ : L2.St} {H0 Φ0 H Φ : Hp} {η0 η : En} {i : Nat} {r : Rv} {v : V} {Q : En → Prop} (x0 : Rep K b σ H0 Φ0 η0) (x : Rep K b σ H Φ η) (S : Stp σ H0 Φ0 η0 H Φ η) (rv : RvR K σ H0 H Φ η r v) (q : setO i r η Q) :
    ∃ Φ' η', Rep K b (σ.set i (some v)) H Φ' η' ∧ Same Φ0 Φ' ∧ Q η' := by
  cases r with
  | fz d => exact setF_ok x0 x S rv q
  | «at» j => exact setF_ok x0 x S rv q
  | own o =>
    obtain ⟨nb, q⟩ := q
    obtain ⟨a, rfl, c, f, n⟩ := rv
    exact ⟨Φ, _, x.assign (s := .own o) (nb_of nb) ⟨a, rfl, c⟩ (fun o z => by cases z) (fun o' z => ⟨a, rfl, x0.still a f, n⟩), S.le, q⟩
variable {i : Nat} {y : Str} {py : Pos}
def dSet (i : Nat) (t : DTE) : DTS := fun D η => t η fun r η1 => setF i r η1 D.nx
def dSetO (i : Nat) (t : DTE) : DTS := fun D η => t η fun r η1 => setO i r η1 D.nx
theorem ds_set (hN : X.N.Nodup) (he : DE X b e t) (hi : X.N[i]? = some y := by rfl) (hx : Loc X.env.scope y := by first | exact Or.inl rfl | exact Or.inr rfl) (hs : swapsWith e (some (.Name y py)) pos.line X.env = pure false := by rfl) (hf : X.fn y = true ∨ X.env.scope.names.lookup y = some .local := by first | exact .inl rfl | exact .inr rfl | assumption) :
    DS X b (.Assign [.Name y py] e pos) (dSet i t) := ⟨ps_imp (ps_set hN hi hx he.pe hs hf) fun D σ H h => by
  obtain ⟨Φ, η, Dd, x, q, k, _⟩ := h
  refine ⟨Φ, η, _, x, q, fun v H1 Φ1 η1 r x1 S1 rv q1 => ?_⟩
  obtain ⟨Φ2, η2, x2, le2, q2⟩ := setF_ok x x1 S1 rv q1
  exact k _ H1 Φ2 η2 x2 le2 q2⟩
theorem ds_setO (hN : X.N.Nodup) (he : DE X b e t) (hi : X.N[i]? = some y := by rfl) (hx : Loc X.env.scope y := by first | exact Or.inl rfl | exact Or.inr rfl) (hs : swapsWith e (some (.Name y py)) pos.line X.env = pure false := by rfl) (hf : X.fn y = true ∨ X.env.scope.names.lookup y = some .local := by first | exact .inl rfl | exact .inr rfl | assumption) :
    DS X b (.Assign [.Name y py] e pos) (dSetO i t) := ⟨ps_imp (ps_set hN hi hx he.pe hs hf) fun D σ H h => by
  obtain ⟨Φ, η, Dd, x, q, k, _⟩ := h
  refine ⟨Φ, η, _, x, q, fun v H1 Φ1 η1 r x1 S1 rv q1 => ?_⟩
  obtain ⟨Φ2, η2, x2, le2, q2⟩ := setO_ok x x1 S1 rv q1
  exact k _ H1 Φ2 η2 x2 le2 q2⟩
end
end DL

set_option Elab.async false
set_option linter.all false
set_option maxRecDepth 100000
namespace DL
open PySem PySem.Spec PyProof.Rows L2 LamX

abbrev DTG := D → En → (En → Prop) → Prop
abbrev DTGs := List D → En → (En → Prop) → Prop
section
variable (K : PySem.W.Frag) (b : Bs) (vs : List Nat)
def canG (td : DTG) : TG := fun v σ H Q => ∃ Φ η d Qd, Rep K b σ H Φ η ∧ R K Φ d v ∧ td d η Qd ∧
  ∀ σ' η', Rep K b σ' H Φ η' → (∀ j, j ∉ vs → σ'[j]? = σ[j]? ∧ slot η' j = slot η j) → (η'.length = η.length ∧ ∀ j, (slot η' j).isOwn = true → (slot η j).isOwn = true ∧ j ∉ vs) → Qd η' → Q σ' H
def canGs (td : DTGs) : TGs := fun ws σ H Q => ∃ Φ η ds Qd, Rep K b σ H Φ η ∧ Rs K Φ ds ws ∧ td ds η Qd ∧
  ∀ σ' η', Rep K b σ' H Φ η' → (∀ j, j ∉ vs → σ'[j]? = σ[j]? ∧ slot η' j = slot η j) → (η'.length = η.length ∧ ∀ j, (slot η' j).isOwn = true → (slot η j).isOwn = true ∧ j ∉ vs) → Qd η' → Q σ' H
end
structure DG (X : Cx) (b : Bs) (tg : Expr) (vs : List Nat) (td : DTG) : Prop where
  pg : PG X tg (canG X.K b vs td)
structure DGs (X : Cx) (b : Bs) (tgs : List Expr) (vs : List Nat) (td : DTGs) : Prop where
  pgs : PGs X tgs (canGs X.K b vs td)
section
variable {X : Cx} {b : Bs} {e : Expr} {es : List Expr} {vs ws : List Nat} {pos : Pos}
def gNm (i : Nat) : DTG := fun d η Q => notBor (slot η i) = true ∧ Q (η.set i (.fz d))
theorem dg_n (i : Nat) {y : Str} (hN : X.N.Nodup) (hi : X.N[i]? = some y := by rfl) (hx : Loc X.env.scope y := by first | exact Or.inl rfl | exact Or.inr rfl) (hf : X.fn y = true ∨ X.env.scope.names.lookup y = some .local := by first | exact .inl rfl | exact .inr rfl | assumption) :
    DG X b (.Name y pos) [i] (gNm i) := by
  refine ⟨⟨fun pins s σ H v u Q I r h => (pg_name hN hi hx hf).run pins s σ H v u Q I r ?_⟩⟩
  obtain ⟨Φ, η, d, Qd, x, rr, ⟨nb, q⟩, k⟩ := h
  refine k _ _ (x.assign (s := .fz d) (nb_of nb) ⟨v, rfl, rr⟩ (fun o z => by cases z) (fun o z => by cases z)) (fun j hj => ?_) ⟨List.length_set .., fun j ho => ?_⟩ q
  · have hj : j ≠ i := fun z => hj (by rw [z]; exact List.mem_cons_self)
    exact ⟨getset_ne hj, slot_set_ne hj⟩
  · by_cases hj : j = i
    · by_cases il : i < η.length
      · rw [hj, slot_set_same il] at ho; cases ho
      · rw [set_out il, hj, slot_out (by omega)] at ho; cases ho
    · rw [slot_set_ne hj] at ho
      exact ⟨ho, fun z => hj (List.mem_singleton.mp z)⟩
def gsNil : DTGs := fun ds η Q => ds = [] ∧ Q η
def gsCons (t : DTG) (u : DTGs) : DTGs := fun ds η Q => match ds with
  | d :: r => t d η fun η1 => u r η1 Q
  | [] => False
theorem dgs_nil : DGs X b [] [] gsNil := by
  refine ⟨⟨fun pins s σ H zs us Q I r h => pgs_nil.run pins s σ H zs us Q I r ?_⟩⟩
  obtain ⟨Φ, η, ds, Qd, x, rs, ⟨e, q⟩, k⟩ := h
  subst e
  exact ⟨rs, k σ η x (fun j _ => ⟨rfl, rfl⟩) ⟨rfl, fun j h => ⟨h, by simp⟩⟩ q⟩
theorem dgs_cons {t : DTG} {u : DTGs} (h1 : DG X b e vs t) (h2 : DGs X b es ws u) (hs : (assignEach (e :: es) X.env).map (·.2) = assign e X.env :: (assignEach es X.env).map (·.2) := by rfl) : DGs X b (e :: es) (vs ++ ws) (gsCons t u) := by
  refine ⟨⟨fun pins s σ H zs us Q I r h => (pgs_cons h1.pg h2.pgs hs).run pins s σ H zs us Q I r ?_⟩⟩
  obtain ⟨Φ, η, ds, Qd, x, rs, q, k⟩ := h
  cases ds with
  | nil => exact q.elim
  | cons d ds =>
    obtain ⟨v, zr, rfl, rr, rs'⟩ := rs
    refine ⟨v, zr, rfl, Φ, η, d, _, x, rr, q, fun σ1 η1 x1 o1 w1 q1 => ?_⟩
    refine ⟨Φ, η1, ds, Qd, x1, rs', q1, fun σ2 η2 x2 o2 w2 q2 => k σ2 η2 x2 (fun j hj => ?_) ⟨w2.1.trans w1.1, fun j ho => ?_⟩ q2⟩
    · have a1 := o1 j fun z => hj (List.mem_append_left _ z)
      have a2 := o2 j fun z => hj (List.mem_append_right _ z)
      exact ⟨a2.1.trans a1.1, a2.2.trans a1.2⟩
    · obtain ⟨h1, n1⟩ := w2.2 j ho
      obtain ⟨h2, n2⟩ := w1.2 j h1
      exact ⟨h2, fun z => (List.mem_append.mp z).elim n2 n1⟩
def gTp (n : Nat) (t : DTGs) : DTG := fun d η Q => match d with
  | .tup ds => ds.length = n ∧ t ds η Q
  | _ => False
theorem dg_t {k n : Nat} {t : DTGs} (hc : X.calm = true) (h : DGs X b es vs t) (hn : (assignEach es X.env).length = n := by rfl) (hst : (assignEach es X.env).findIdx? (·.1) = none := by rfl) : DG X b (.Tuple es k pos) vs (gTp n t) := by
  refine ⟨⟨fun pins s σ H v u Q I r hh => (pg_tup hc h.pgs hn hst).run pins s σ H v u Q I r ?_⟩⟩
  obtain ⟨Φ, η, d, Qd, x, rr, q, kk⟩ := hh
  cases d with
  | tup ds =>
    obtain ⟨a, zs, rfl, hq, rs⟩ := rr
    exact ⟨a, zs, rfl, sqT_mono x.held hq, by rw [← rs.length]; exact q.1, Φ, η, ds, Qd, x, rs, q.2, kk⟩
  | _ => exact q.elim
/-- target = value -/
def dAsg (t : DTE) (g : DTG) : DTS := fun D η => t η fun r η1 => frzQ r η1 fun d η2 => g d η2 D.nx
theorem ds_asg {tg : Expr} {t : DTE} {g : DTG} (he : DE X b e t) (hg : DG X b tg vs g) (hs : swapsWithSole [tg] e pos.line X.env = pure false := by rfl) (hw : swappedStores [tg] e X.env = pure none := by rfl)
    (h1 : (assignEach [tg] X.env).map (·.2) = [assign tg X.env] := by rfl) : DS X b (.Assign [tg] e pos) (dAsg t g) := ⟨ps_imp (ps_asg he.pe hg.pg hs hw h1) fun D σ H h => by
  obtain ⟨Φ, η, Dd, x, q, k, _⟩ := h
  refine ⟨Φ, η, _, x, q, fun v H1 Φ1 η1 r x1 S1 rv q1 => ?_⟩
  obtain ⟨d, Φ2, η2, x2, S2, rr, q2⟩ := frz_ok x x1 S1 rv q1
  exact ⟨Φ2, η2, d, _, x2, rr, q2, fun σ' η' x' _ _ q' => k σ' H1 Φ2 η' x' S2.le q'⟩⟩
end

def Wk (K : PySem.W.Frag) (Φ : Hp) (J : It) (ds : List D) : Prop := ∀ i H, Same Φ H → (∀ d, ds[i]? = some d → J.go i H ∧ ∀ x H', J.yld i H x H' →
    ((H' = H ∧ R K Φ d x) ∨ ∃ T vs es, H T = none ∧ H' = upd H T (.tup vs) ∧ x = .ref T ∧ d = .tup es ∧ Rs K Φ es vs)) ∧ (ds.length ≤ i → J.stop i H)
abbrev DTI := En → (List D → En → Prop) → Prop
def canI (K : PySem.W.Frag) (b : Bs) (td : DTI) : TI := fun σ H R => ∃ Φ η Qd, Rep K b σ H Φ η ∧ td η Qd ∧
  ∀ J H' Φ' η' ds, Rep K b σ H' Φ' η' → Stp σ H Φ η H' Φ' η' → Wk K Φ' J ds → Qd ds η' → R J H'
structure DI (X : Cx) (b : Bs) (tg iter : Expr) (td : DTI) : Prop where
  pi : PI X tg iter (canI X.K b td)
section
variable {X : Cx} {b : Bs} {tg e a c : Expr} {t u : DTE} {pos p : Pos}
theorem wk_seq {K : PySem.W.Frag} {Φ : Hp} {J : It} {ds : List D} {vs : List V} (rs : Rs K Φ ds vs) (hg : ∀ i H v, Same Φ H → vs[i]? = some v → J.go i H ∧ ∀ x H', J.yld i H x H' → H' = H ∧ x = v) (hs : ∀ i H, Same Φ H → vs.length ≤ i → J.stop i H) : Wk K Φ J ds := by
  refine fun i H hH => ⟨fun d hd => ?_, fun hi => hs i H hH (by rw [← rs.length]; exact hi)⟩
  obtain ⟨v, hv, rr⟩ := rs.get hd
  obtain ⟨h1, h2⟩ := hg i H v hH hv
  refine ⟨h1, fun x H' y => .inl ?_⟩
  obtain ⟨e1, e2⟩ := h2 x H' y
  rw [e2]; exact ⟨e1, rr⟩
theorem wk_list {K : PySem.W.Frag} {Φ : Hp} {a : Addr} {ds : List D} {vs : List V} (h : SqL K Φ a vs) (rs : Rs K Φ ds vs) : Wk K Φ (Itl K a) ds :=
  wk_seq rs (fun i H v hH hv => ⟨⟨vs, v, hH.seq h, hv⟩, fun x H' y => ⟨y.1, Option.some.inj ((y.2 vs (hH.seq h)).symm.trans hv)⟩⟩) fun i H hH hi => ⟨vs, hH.seq h, hi⟩
theorem wk_tup {K : PySem.W.Frag} {Φ : Hp} {a : Addr} {ds : List D} {vs : List V} (h : SqT K Φ a vs) (rs : Rs K Φ ds vs) : Wk K Φ (Itt K a) ds :=
  wk_seq rs (fun i H v hH hv => ⟨⟨vs, v, sqT_mono hH h, hv⟩, fun x H' y => ⟨y.1, Option.some.inj ((y.2 vs (sqT_mono hH h)).symm.trans hv)⟩⟩) fun i H hH hi => ⟨vs, sqT_mono hH h, hi⟩
/-- a list or a tuple -/
theorem pi_seq {l : Expr} {tl : TE} (hl : PE X l tl) : PI X tg l (fun σ H R => tl σ H fun x H1 => (∃ a, x = .ref a ∧ (∃ xs, SqL X.K H1 a xs) ∧ R (Itl X.K a) H1) ∨ ∃ a, x = .ref a ∧ (∃ xs, SqT X.K H1 a xs) ∧ R (Itt X.K a) H1) := by
  constructor
  intro pins s σ H R I h
  refine thn (hl.run pins s σ H _ I h) fun v s1 q => ?_
  obtain ⟨x, H1, I1, r1, q1⟩ := q
  have pe1 : ∀ {y : V}, y = x → PE X l (fun _ _ _ => False) := fun _ => ⟨fun _ _ _ _ _ _ z => z.elim⟩
  have fin : ∀ a : Addr, x = .ref a → v = Value.ref a := fun a e => by rw [e] at r1; exact r1
  rcases q1 with ⟨a, e, ⟨xs, hq⟩, q⟩ | ⟨a, e, ⟨xs, hq⟩, q⟩
  · rw [fin a e]
    obtain ⟨its, rv, pl, hz⟩ := I1.list hq
    refine wpAny_pyIter_list pl.isList ?_
    refine ⟨s1.heap.objs.size, [s1.heap.objs.size], fun i h => h.IsListIter s1.heap.objs.size a i, Itl X.K a, H1, rfl, I1.kept (t' := s1.toks) fun b o z => Heap.get?_push_of_some _ z, turn_list a _, ?_, ?_, q⟩
    · exact ⟨_, Heap.get?_push_size _ rfl, rfl, rfl⟩
    · intro b hb
      rw [List.mem_singleton] at hb
      rw [hb]
      exact I1.fpOk (Nat.le_refl _) (I1.hok.fresh (Nat.le_refl _))
  · rw [fin a e]
    obtain ⟨its, rv, pl, hz⟩ := I1.tuple hq
    have pt : s1.heap.IsTuple a its.toArray := pl
    refine wpAny_pyIter_tuple pt ?_
    refine ⟨s1.heap.objs.size, [s1.heap.objs.size], fun i h => h.IsTupleIter s1.heap.objs.size a i, Itt X.K a, H1, rfl, I1.kept (t' := s1.toks) fun b o z => Heap.get?_push_of_some _ z, turn_tuple a _, ?_, ?_, q⟩
    · exact ⟨_, Heap.get?_push_size _ rfl, rfl, rfl⟩
    · intro b hb
      rw [List.mem_singleton] at hb
      rw [hb]
      exact I1.fpOk (Nat.le_refl _) (I1.hok.fresh (Nat.le_refl _))
def seqQ (d : D) (Q : List D → Prop) : Prop := match d with
  | .tup ds => Q ds
  | .lst ds => Q ds
  | .rol ds => Q ds
  | _ => False
def iSeq (t : DTE) : DTI := fun η Q => t η fun r η1 => frzQ r η1 fun d η2 => seqQ d fun ds => Q ds η2
theorem di_seq (he : DE X b e t) : DI X b tg e (iSeq t) := by
  refine ⟨⟨fun pins s σ H R I h => (pi_seq he.pe).run pins s σ H R I ?_⟩⟩
  obtain ⟨Φ, η, Qd, x, q, k⟩ := h
  refine ⟨Φ, η, _, x, q, fun v H1 Φ1 η1 r x1 S1 rv q1 => ?_⟩
  obtain ⟨d, Φ2, η2, x2, S2, rr, q2⟩ := frz_ok x x1 S1 rv q1
  unfold seqQ at q2
  split at q2
  · obtain ⟨a, vs, rfl, hq, rs⟩ := rr
    exact .inr ⟨a, rfl, ⟨vs, sqT_mono x2.held hq⟩, k _ H1 Φ2 η2 _ x2 S2 (wk_tup hq rs) q2⟩
  · obtain ⟨a, vs, rfl, hq, rs⟩ := rr
    have hq' : SqL X.K Φ2 a vs := .inl (.inl hq)
    exact .inl ⟨a, rfl, ⟨vs, x2.held.seq hq'⟩, k _ H1 Φ2 η2 _ x2 S2 (wk_list hq' rs) q2⟩
  · obtain ⟨a, vs, rfl, hq, rs⟩ := rr
    exact .inl ⟨a, rfl, ⟨vs, x2.held.seq hq⟩, k _ H1 Φ2 η2 _ x2 S2 (wk_list hq rs) q2⟩
  · exact q2.elim
/-- range -/
def rngD (lo : Int) (n : Nat) : List D := (List.range n).map fun (i : Nat) => D.int (lo + (i : Int))
theorem rngD_get (lo : Int) (n i : Nat) (h : i < n) : (rngD lo n)[i]? = some (.int (lo + i)) := by
  unfold rngD
  rw [List.getElem?_map, List.getElem?_range h]; rfl
theorem wk_rng {K : PySem.W.Frag} {Φ : Hp} (lo : Int) (n : Nat) : Wk K Φ (Itr lo n) (rngD lo n) := by
  have hl : (rngD lo n).length = n := by unfold rngD; rw [List.length_map, List.length_range]
  refine fun i H hH => ⟨fun d hd => ?_, fun hi => ?_⟩
  · have hi : i < n := by
      have := (List.getElem?_eq_some_iff.mp hd).1
      rw [hl] at this; exact this
    rw [rngD_get lo n i hi] at hd
    cases hd
    refine ⟨hi, fun x H' y => .inl ?_⟩
    obtain ⟨e1, e2⟩ := y
    exact ⟨e1, e2⟩
  · rw [hl] at hi; exact hi
def sm62 (j : Int) : Prop := -(2 ^ 62) ≤ j ∧ j < 2 ^ 62
def iRng (t : DTE) : DTI := fun η Q => t η fun r η1 => frzQ r η1 fun d η2 => intQ d fun j => sm62 j ∧ Q (rngD 0 j.toNat) η2
theorem intR {K : PySem.W.Frag} {Φ : Hp} {d : D} {v : V} {Q : Int → Prop} (r : R K Φ d v) (q : intQ d Q) : ∃ k, v = .int k ∧ Q k := by
  unfold intQ at q
  split at q
  · exact ⟨_, r, q⟩
  · exact q.elim
theorem di_rng (hg : Gl X "range") (hm : X.mg "range" = none) (ha : DE X b a t) (hs : starEach [a] X.env = [(false, eval a X.env)] := by rfl) : DI X b tg (.Call (.Name "range" p) [a] [] pos) (iRng t) := by
  refine ⟨⟨fun pins s σ H R I h => (pi_range1 hg hm (L2.pa_cons ha.pe L2.pa_nil hs) hs).run pins s σ H R I ?_⟩⟩
  obtain ⟨Φ, η, Qd, x, q, k⟩ := h
  refine ⟨Φ, η, _, x, q, fun v H1 Φ1 η1 r x1 S1 rv q1 => ?_⟩
  obtain ⟨d, Φ2, η2, x2, S2, rr, q2⟩ := frz_ok x x1 S1 rv q1
  obtain ⟨j, e, q3⟩ := intR rr q2
  exact ⟨j, by rw [e], q3.1.1, q3.1.2, k _ H1 Φ2 η2 _ x2 S2 (wk_rng 0 _) q3.2⟩
def iRng2 (t u : DTE) : DTI := fun η Q => t η fun r η1 => frzQ r η1 fun d η2 => u η2 fun r' η3 => frzQ r' η3 fun d' η4 => intQ d fun i => intQ d' fun j => (sm62 i ∧ sm62 j) ∧ Q (rngD i (j - i).toNat) η4
theorem di_rng2 (hg : Gl X "range") (hm : X.mg "range" = none) (ha : DE X b a t) (hc : DE X b c u) (hs : starEach [a, c] X.env = [(false, eval a X.env), (false, eval c X.env)] := by rfl) (hs2 : starEach [c] X.env = [(false, eval c X.env)] := by rfl) :
    DI X b tg (.Call (.Name "range" p) [a, c] [] pos) (iRng2 t u) := by
  refine ⟨⟨fun pins s σ H R I h => (pi_range2 hg hm (L2.pa_cons ha.pe (L2.pa_cons hc.pe L2.pa_nil hs2) (by rw [hs, hs2])) hs hs2).run pins s σ H R I ?_⟩⟩
  obtain ⟨Φ, η, Qd, x, q, k⟩ := h
  refine ⟨Φ, η, _, x, q, fun v H1 Φ1 η1 r x1 S1 rv q1 => ?_⟩
  obtain ⟨d, Φ2, η2, x2, S2, rr, q2⟩ := frz_ok x x1 S1 rv q1
  refine ⟨Φ2, η2, _, x2, q2, fun v' H3 Φ3 η3 r' x3 S3 rv' q3 => ?_⟩
  obtain ⟨d', Φ4, η4, x4, S4, rr', q4⟩ := frz_ok x2 x3 S3 rv' q3
  obtain ⟨i, e, q5⟩ := intR (rr.mono S4.le) q4
  obtain ⟨j, e', q6⟩ := intR rr' q5
  exact ⟨i, j, by rw [e, e'], ⟨q6.1.1.1, q6.1.1.2, q6.1.2.1, q6.1.2.2⟩, k _ H3 Φ4 η4 _ x4 (S2.trans S4) (wk_rng i _) q6.2⟩
end

def forL (g : DTG) (tb : DTS) (D : DEnds) : List DL.D → En → Prop
  | [], η => D.nx η
  | d :: ds, η => g d η fun η1 => tb { D with nx := forL g tb D ds, ct := forL g tb D ds, bk := D.nx } η1
def dFor (ti : DTI) (g : DTG) (tb : DTS) : DTS := fun D η => ti η fun ds η1 => forL g tb D ds η1
def dWhile (tt : DTT) (tb : DTS) : DTS := fun D η => ∃ W : Nat → En → Prop, (∃ m, W m η) ∧ ∀ m η, W m η → tt η fun k η1 => if k = true then
  tb { D with nx := fun η2 => ∃ m', m' < m ∧ W m' η2, ct := fun η2 => ∃ m', m' < m ∧ W m' η2, bk := D.nx } η1 else D.nx η1
section
variable {X : Cx} {b : Bs} {tg iter c : Expr} {vs : List Nat} {ti : DTI} {g : DTG} {tb : DTS} {tt : DTT} {pos : Pos} {body : List Stmt}
theorem ds_for (hp : PassesOwn (model X.prog X.w) X.A X.env X.xe) (hc : X.calm = true) (hi : DI X b tg iter ti) (hg : DG X b tg vs g) (hb : DSs X b body tb) (hs : ∀ x, foldedSetIterable iter X.env x = pure x := by intro _; rfl) :
    DS X b (.For tg iter body [] pos) (dFor ti g tb) := ⟨ps_imp (ps_for hp hc hi.pi hg.pg hb.pss hs) fun D σ H h => by
  obtain ⟨Φ, η, Dd, x, q, k1, k2, k3, k4⟩ := h
  refine ⟨Φ, η, _, x, q, fun J H1 Φ1 η1 ds x1 S1 wk q1 => ?_⟩
  refine ⟨fun i m σ H => ∃ Φ η, Rep X.K b σ H Φ η ∧ Same Φ1 Φ ∧ m = ds.length - i ∧ i ≤ ds.length ∧ forL g tb Dd (ds.drop i) η, ⟨_, Φ1, η1, x1, fun _ _ z => z, rfl, Nat.zero_le _, q1⟩, ?_⟩
  rintro i m σ2 H2 ⟨Φ2, η2, x2, le, rfl, hi, q2⟩
  obtain ⟨wg, ws⟩ := wk i H2 (le.trans x2.held)
  by_cases hlt : i < ds.length
  case neg =>
    have e : i = ds.length := by omega
    subst e
    rw [List.drop_length] at q2
    exact .inl ⟨ws (Nat.le_refl _), k1 σ2 H2 Φ2 η2 x2 (S1.le.trans le) q2⟩
  rw [List.drop_eq_getElem_cons hlt] at q2
  obtain ⟨go, yl⟩ := wg ds[i] (List.getElem?_eq_getElem hlt)
  let N : L2.St → Hp → Prop := fun σ' H' => ∃ Φ η, Rep X.K b σ' H' Φ η ∧ Same Φ1 Φ ∧ forL g tb Dd (ds.drop (i + 1)) η
  refine .inr ⟨go, N, fun σ' H' ⟨Φ', η', x', le', q'⟩ => ⟨ds.length - (i + 1), by omega, Φ', η', x', le', rfl, hlt, q'⟩, fun xv H' y => ?_⟩
  have go2 : ∀ {H3 Φ3 : Hp}, Rep X.K b σ2 H3 Φ3 η2 → Same Φ2 Φ3 → R X.K Φ3 ds[i] xv → canG X.K b vs g xv σ2 H3 fun σ2 H2 => canS X.K b tb { D with nx := N, ct := N, bk := D.nx } σ2 H2 := fun {H3 Φ3} x3 le3 rr =>
    ⟨Φ3, η2, ds[i], _, x3, rr, q2, fun σ4 η4 x4 _ _ q4 => ⟨Φ3, η4, _, x4, q4, fun σ5 H5 Φ5 η5 x5 le5 q5 => ⟨Φ5, η5, x5, (le.trans le3).trans le5, q5⟩, k2, fun σ5 H5 Φ5 η5 x5 le5 q5 => k1 σ5 H5 Φ5 η5 x5 (S1.le.trans ((le.trans le3).trans le5)) q5, fun σ5 H5 Φ5 η5 x5 le5 q5 => ⟨Φ5, η5, x5, (le.trans le3).trans le5, q5⟩⟩⟩
  rcases yl xv H' y with ⟨rfl, rr⟩ | ⟨T, zs, es, hT, rfl, rfl, ed, rs⟩
  · exact go2 x2 (Same.refl _) (rr.mono le)
  · obtain ⟨x3, S3⟩ := x2.alloc (u := .tup zs) hT (fun ps z => by cases z)
    refine go2 x3 S3.le ?_
    rw [ed]
    exact ⟨T, zs, rfl, .inl (.inl upd_same), rs.mono (le.trans S3.le)⟩⟩
theorem ds_while (hp : PassesOwn (model X.prog X.w) X.A X.env X.xe) (hc : DT X b c tt) (hb : DSs X b body tb) : DS X b (.While c body [] pos) (dWhile tt tb) := ⟨ps_imp (ps_while hp hc.pt hb.pss) fun D σ H h => by
  obtain ⟨Φ, η, Dd, x, ⟨W, ⟨m0, w0⟩, turn⟩, k1, k2, k3, k4⟩ := h
  refine ⟨fun m σ' H' => ∃ Φ' η', Rep X.K b σ' H' Φ' η' ∧ Same Φ Φ' ∧ W m η', ⟨m0, Φ, η, x, Same.refl _, w0⟩, ?_⟩
  rintro m σ1 H1 ⟨Φ1, η1, x1, le1, w1⟩
  refine ⟨Φ1, η1, _, x1, turn m η1 w1, fun kk H2 Φ2 η2 x2 S2 q2 => ?_⟩
  cases kk with
  | false => rw [if_neg Bool.false_ne_true] at q2 ⊢; exact k1 σ1 H2 Φ2 η2 x2 (le1.trans S2.le) q2
  | true =>
    rw [if_pos rfl] at q2 ⊢
    refine ⟨fun σ' H' => ∃ m', m' < m ∧ ∃ Φ' η', Rep X.K b σ' H' Φ' η' ∧ Same Φ Φ' ∧ W m' η', fun σ' H' h => h, Φ2, η2, _, x2, q2, ?_, k2, ?_, ?_⟩
    · rintro σ3 H3 Φ3 η3 x3 le3 ⟨m', hm, w3⟩
      exact ⟨m', hm, Φ3, η3, x3, (le1.trans S2.le).trans le3, w3⟩
    · exact fun σ3 H3 Φ3 η3 x3 le3 q3 => k1 σ3 H3 Φ3 η3 x3 ((le1.trans S2.le).trans le3) q3
    · rintro σ3 H3 Φ3 η3 x3 le3 ⟨m', hm, w3⟩
      exact ⟨m', hm, Φ3, η3, x3, (le1.trans S2.le).trans le3, w3⟩⟩
end
end DL

set_option Elab.async false
set_option linter.all false
set_option maxRecDepth 100000
namespace DL
open PySem PySem.Spec PyProof.Rows L2 LamX

def wipeD (η : En) : List Nat → En
  | [] => η
  | v :: vs => (wipeD η vs).set v .no
def restD (η1 η : En) : List Nat → En
  | [] => η
  | v :: vs => (restD η1 η vs).set v (slot η1 v)
def wipeOk (η : En) (vs : List Nat) : Prop := ∀ i ∈ vs, notBor (slot η i) = true
section
variable {K : PySem.W.Frag} {b : Bs} {σ : L2.St} {H Φ H1 Φ1 : Hp} {η η1 : En} {vs : List Nat}
theorem wipeD_len (η : En) : ∀ vs, (wipeD η vs).length = η.length
  | [] => rfl
  | v :: vs => by show ((wipeD η vs).set v .no).length = _; rw [List.length_set, wipeD_len η vs]
theorem restD_len (η1 η : En) : ∀ vs, (restD η1 η vs).length = η.length
  | [] => rfl
  | v :: vs => by show ((restD η1 η vs).set v _).length = _; rw [List.length_set, restD_len η1 η vs]
theorem slot_set_no {η : En} {i j : Nat} : slot (η.set i .no) j = if j = i then .no else slot η j := by
  by_cases h : j = i
  · rw [if_pos h, h]
    by_cases il : i < η.length
    · exact slot_set_same il
    · rw [set_out il]; exact slot_out (by omega)
  · rw [if_neg h, slot_set_ne h]
theorem wipeD_slot (η : En) : ∀ (vs : List Nat) (j : Nat), slot (wipeD η vs) j = if j ∈ vs then .no else slot η j
  | [], j => by simp [wipeD]
  | v :: vs, j => by
    show slot ((wipeD η vs).set v .no) j = _
    rw [slot_set_no, wipeD_slot η vs j]
    by_cases h : j = v
    · simp [h]
    · simp [h]
theorem restD_slot (η1 η : En) (hl : η1.length = η.length) : ∀ (vs : List Nat) (j : Nat), slot (restD η1 η vs) j = if j ∈ vs then slot η1 j else slot η j
  | [], j => by simp [restD]
  | v :: vs, j => by
    show slot ((restD η1 η vs).set v (slot η1 v)) j = _
    by_cases h : j = v
    · rw [if_pos (by rw [h]; exact List.mem_cons_self), h]
      by_cases il : v < η.length
      · exact slot_set_same (by rw [restD_len]; exact il)
      · rw [set_out (by rw [restD_len]; exact il), slot_out (by rw [restD_len]; omega), slot_out (by omega)]
    · rw [slot_set_ne h, restD_slot η1 η hl vs j]
      simp [h]
theorem wipe_get (σ : L2.St) : ∀ (vs : List Nat) (j : Nat), j ∉ vs → (wipe σ vs)[j]? = σ[j]?
  | [], j, _ => rfl
  | v :: vs, j, h => by
    show ((wipe σ vs).set v none)[j]? = _
    rw [getset_ne fun z => h (by rw [z]; exact List.mem_cons_self), wipe_get σ vs j fun z => h (List.mem_cons_of_mem _ z)]
theorem wipe_in (σ : L2.St) : ∀ (vs : List Nat) (j : Nat) (v : V), j ∈ vs → (wipe σ vs)[j]? ≠ some (some v) := fun vs j v hj h => (wipe_some h).2 hj
theorem wipe_eq {σ σ2 : L2.St} (hl : σ2.length = σ.length) : ∀ {vs : List Nat}, (∀ j, j ∉ vs → σ2[j]? = σ[j]?) → wipe σ2 vs = wipe σ vs := by
  intro vs h
  refine List.ext_getElem? fun j => ?_
  by_cases hj : j ∈ vs
  · have key : ∀ s : L2.St, s.length = σ.length → (wipe s vs)[j]? = if j < σ.length then some none else none := fun s hs => by
      by_cases hlt : j < σ.length
      · rw [if_pos hlt]
        have hlt' : j < (wipe s vs).length := by rw [wipe_length, hs]; exact hlt
        rw [List.getElem?_eq_getElem hlt']
        cases e : (wipe s vs)[j] with
        | none => rfl
        | some v => exact absurd (by rw [List.getElem?_eq_getElem hlt', e]) (wipe_in s vs j v hj)
      · rw [if_neg hlt, List.getElem?_eq_none (by rw [wipe_length, hs]; omega)]
    rw [key σ2 hl, key σ rfl]
  · rw [wipe_get σ2 vs j hj, wipe_get σ vs j hj, h j hj]
theorem wipe_wipe (σ : L2.St) (vs : List Nat) : wipe (wipe σ vs) vs = wipe σ vs := wipe_eq (wipe_length σ vs) fun j hj => wipe_get σ vs j hj

/-- names forgotten -/
theorem Rep.wipe (x : Rep K b σ H Φ η) (ok : wipeOk η vs) : Rep K b (L2.wipe σ vs) H Φ (wipeD η vs) := by
  have off : ∀ j, slot (wipeD η vs) j ≠ .no → j ∉ vs ∧ slot (wipeD η vs) j = slot η j := fun j h => by
    rw [wipeD_slot] at h ⊢
    by_cases hj : j ∈ vs
    · rw [if_pos hj] at h; exact absurd rfl h
    · rw [if_neg hj]; exact ⟨hj, rfl⟩
  have own : ∀ j, (slot (wipeD η vs) j).isOwn = true → j ∉ vs ∧ slot (wipeD η vs) j = slot η j := fun j h => off j fun z => by rw [z] at h; cases h
  refine { toExt := x.toExt, len := by rw [wipe_length, wipeD_len]; exact x.len, sl := fun j => ?_, sep := fun i j a h1 h2 e1 e2 => ?_, ownF := fun i a o h1 h2 => ?_, bor1 := fun i a h => ?_, bor2 := fun i o h => ?_, he := x.he }
  · rw [wipeD_slot]
    by_cases hj : j ∈ vs
    · rw [if_pos hj]; trivial
    · rw [if_neg hj, wipe_get σ vs j hj]; exact x.sl j
  · obtain ⟨n1, q1⟩ := own i h1
    obtain ⟨n2, q2⟩ := own j h2
    rw [q1] at h1; rw [q2] at h2
    rw [wipe_get σ vs i n1] at e1; rw [wipe_get σ vs j n2] at e2
    exact x.sep i j a h1 h2 e1 e2
  · obtain ⟨n1, q1⟩ := own i (by rw [h1]; rfl)
    rw [q1] at h1
    rw [wipe_get σ vs i n1] at h2
    exact x.ownF i a o h1 h2
  · obtain ⟨⟨o, q1⟩, q2⟩ := x.bor1 i a h
    have n : i ∉ vs := fun z => by
      have := ok i z
      rw [q1] at this; cases this
    exact ⟨⟨o, by rw [wipeD_slot, if_neg n]; exact q1⟩, by rw [wipe_get σ vs i n]; exact q2⟩
  · obtain ⟨n1, q1⟩ := own i (by rw [h]; rfl)
    rw [q1] at h
    exact x.bor2 i o h
theorem ow_wipe {a : Addr} (h : Ow (wipe σ vs) (wipeD η vs) a) : Ow σ η a ∧ ∃ i, i ∉ vs ∧ (slot η i).isOwn = true ∧ σ[i]? = some (some (.ref a)) := by
  obtain ⟨i, h1, h2⟩ := h
  rw [wipeD_slot] at h1
  by_cases hj : i ∈ vs
  · rw [if_pos hj] at h1; cases h1
  · rw [if_neg hj] at h1
    rw [wipe_get σ vs i hj] at h2
    exact ⟨⟨i, h1, h2⟩, i, hj, h1, h2⟩
/-- names remembered again -/
theorem Rep.restore {Hc Φc : Hp} {ηc : En} (x1 : Rep K b σ H1 Φ1 η1) (xc : Rep K b (L2.wipe σ vs) Hc Φc ηc) (S : Stp (L2.wipe σ vs) H1 Φ1 (wipeD η1 vs) Hc Φc ηc) (ok : wipeOk η1 vs) :
    Rep K b σ Hc Φc (restD η1 ηc vs) ∧ Stp σ H1 Φ1 η1 Hc Φc (restD η1 ηc vs) := by
  have hl : η1.length = ηc.length := by rw [S.ln, wipeD_len]
  have sl : ∀ j, slot (restD η1 ηc vs) j = if j ∈ vs then slot η1 j else slot ηc j := restD_slot η1 ηc hl vs
  -- what a wiped name owns is touched by nobody
  have hid : ∀ i a, i ∈ vs → (slot η1 i).isOwn = true → σ[i]? = some (some (.ref a)) → ¬ Ow (L2.wipe σ vs) (wipeD η1 vs) a := fun i a hi h1 h2 z => by
    obtain ⟨_, j, hj, q1, q2⟩ := ow_wipe z
    exact hj (x1.sep i j a h1 q1 h2 q2 ▸ hi)
  have sub : ∀ j, j ∉ vs → (slot ηc j).isOwn = true → (slot η1 j).isOwn = true := fun j hj h => by
    have := S.sub j h
    rw [wipeD_slot, if_neg hj] at this; exact this
  have isO : ∀ j, (slot (restD η1 ηc vs) j).isOwn = true → (slot η1 j).isOwn = true := fun j h => by
    rw [sl] at h
    by_cases hj : j ∈ vs
    · rw [if_pos hj] at h; exact h
    · rw [if_neg hj] at h; exact sub j hj h
  refine ⟨{ toExt := xc.toExt, len := by rw [restD_len, ← xc.len, wipe_length], sl := fun j => ?_, sep := fun i j a h1 h2 e1 e2 => x1.sep i j a (isO i h1) (isO j h2) e1 e2, ownF := fun i a o h1 h2 => ?_, bor1 := fun i a h => ?_, bor2 := fun i o h => ?_, he := xc.he }, ?_⟩
  · rw [sl]
    by_cases hj : j ∈ vs
    · rw [if_pos hj]
      have q := x1.sl j
      have own : ∀ o a, σ[j]?.join = some (.ref a) → (slot η1 j).isOwn = true → OcR K H1 Φ1 o a → OcR K Hc Φc o a := fun o a e1 e2 c => by
        have n := hid j a hj e2 (join_some e1)
        obtain ⟨u, hu, _⟩ := c.there
        exact c.step S.le (fun u e t => S.keep a u e n t) (S.nof a (by rw [hu]; simp) c.nf n)
      cases e : slot η1 j with
      | no => trivial
      | fz d =>
        rw [e] at q
        obtain ⟨v, h1, h2⟩ := q
        exact ⟨v, h1, h2.mono S.le⟩
      | own o =>
        rw [e] at q
        obtain ⟨a, h1, h2⟩ := q
        exact ⟨a, h1, own o a h1 (by rw [e]; rfl) h2⟩
      | bor o =>
        rw [e] at q
        obtain ⟨a, h1, h2⟩ := q
        exact ⟨a, h1, own o a h1 (by rw [e]; rfl) h2⟩
    · rw [if_neg hj]
      have q := xc.sl j
      rw [wipe_get σ vs j hj] at q
      exact q
  · rw [sl] at h1
    by_cases hj : i ∈ vs
    · rw [if_pos hj] at h1; exact x1.ownF i a o h1 h2
    · rw [if_neg hj] at h1
      exact xc.ownF i a o h1 (by rw [wipe_get σ vs i hj]; exact h2)
  · have q := x1.bor1 i a h
    have n : i ∉ vs := fun z => by
      obtain ⟨o, e⟩ := q.1
      have := ok i z
      rw [e] at this; cases this
    refine ⟨?_, q.2⟩
    rw [sl, if_neg n]
    exact (xc.bor1 i a h).1
  · rw [sl] at h
    by_cases hj : i ∈ vs
    · rw [if_pos hj] at h; exact x1.bor2 i o h
    · rw [if_neg hj] at h; exact xc.bor2 i o h
  · have nw : ∀ a, ¬ Ow σ η1 a → ¬ Ow (L2.wipe σ vs) (wipeD η1 vs) a := fun a n z => n (ow_wipe z).1
    refine ⟨S.le, fun a o h n t => S.keep a o h (nw a n) t, fun a h f n => S.nof a h f (nw a n), isO, fun j h => ?_, by rw [restD_len, hl], S.trk⟩
    rw [sl] at h
    by_cases hj : j ∈ vs
    · rw [if_pos hj] at h; exact h
    · rw [if_neg hj] at h
      have := S.nn j h
      rw [wipeD_slot, if_neg hj] at this; exact this
/-- a new list that no name holds is changed -/
theorem Rep.writeFree {a : Addr} {av av' : List V} (x : Rep K b σ H Φ η) (h : H a = some (.lst av)) (hb : b.H a = none) (f : Φ a = none) (n : ¬ Ow σ η a) : Rep K b σ (upd H a (.lst av')) Φ η where
  held := fun c o e => by
    have : c ≠ a := fun z => by rw [z, f] at e; cases e
    rw [upd_ne this]; exact x.held c o e
  nt := x.nt
  grow := x.grow
  kept := fun c o h1 h2 h3 => by
    have : c ≠ a := fun z => by rw [z, hb] at h1; cases h1
    rw [upd_ne this]; exact x.kept c o h1 h2 h3
  still := fun c e => x.still c (by
    cases q : H c with
    | none => rfl
    | some o => exact absurd e (upd_some (by rw [q]; simp)))
  frz0 := x.frz0
  tabs := fun p hp => by
    obtain ⟨ps, h1, h2, h3⟩ := x.tabs p hp
    have np : p.1 ≠ a := fun z => by rw [z, h] at h1; cases h1
    refine ⟨ps, by rw [upd_ne np]; exact h1, h2, fun pos cv hc => ?_⟩
    obtain ⟨c0, e1, e2⟩ := h3 pos cv hc
    have nc : c0 ≠ a := fun z => by rw [z, h] at e2; cases e2
    exact ⟨c0, e1, by rw [upd_ne nc]; exact e2⟩
  len := x.len
  sl := fun j => by
    have q := x.sl j
    have own : ∀ o a', σ[j]?.join = some (.ref a') → (slot η j).isOwn = true → OcR K H Φ o a' → OcR K (upd H a (.lst av')) Φ o a' := fun o a' e1 e2 c => by
      refine c.step (fun _ _ h => h) (fun w e _ => ?_) c.nf
      have ne : a' ≠ a := fun z => n ⟨j, e2, by rw [← z]; exact join_some e1⟩
      rw [upd_ne ne]; exact e
    cases e : slot η j with
    | no => trivial
    | fz d => rw [e] at q; exact q
    | own o =>
      rw [e] at q
      obtain ⟨a', h1, h2⟩ := q
      exact ⟨a', h1, own o a' h1 (by rw [e]; rfl) h2⟩
    | bor o =>
      rw [e] at q
      obtain ⟨a', h1, h2⟩ := q
      exact ⟨a', h1, own o a' h1 (by rw [e]; rfl) h2⟩
  sep := x.sep
  ownF := x.ownF
  bor1 := x.bor1
  bor2 := x.bor2
  he := x.he
end

def lcL (g : DTG) (tt : DTT) (te : DTE) (vs : List Nat) (Q : List D → En → Prop) : List D → List D → En → Prop
  | [], acc, η => Q acc η
  | d :: ds, acc, η => g d η fun η1 => tt η1 fun k η2 => if k = true then te η2 fun r η3 => frzQ r η3 fun e η4 => acc.length < sizeLine ∧ wipeOk η4 vs ∧ lcL g tt te vs Q ds (acc ++ [e]) (wipeD η4 vs)
    else wipeOk η2 vs ∧ lcL g tt te vs Q ds acc (wipeD η2 vs)
def dLc (ti : DTI) (g : DTG) (tt : DTT) (te : DTE) (vs : List Nat) : DTE := fun η Q => ti η fun ds η1 => wipeOk η1 vs ∧ lcL g tt te vs (fun acc η2 => Q (.own (.lst acc)) (restD η1 η2 vs)) ds [] (wipeD η1 vs)
structure DTs (X : Cx) (b : Bs) (ifs : List Expr) (td : DTT) : Prop where
  pts : PTs X ifs (canT X.K b td)
section
variable {X : Cx} {b : Bs} {elt tg iter c : Expr} {ifs : List Expr} {scope : Scope} {own : List (Str × Nat)} {ti : DTI} {g : DTG} {tt : DTT} {te : DTE} {pos spos : Pos} {vs : List Nat}
def dYes : DTT := fun η Q => Q true η
theorem dts_nil : DTs X b [] dYes := ⟨⟨fun pins s σ H Q I h => by
  obtain ⟨Φ, η, Qd, x, q, k⟩ := h
  exact pts_nil.run pins s σ H Q I (k true H Φ η x .refl q)⟩⟩
theorem dts_one (h : DT X b c tt) : DTs X b [c] tt := ⟨pts_one h.pt⟩
theorem lc_can {σ : L2.St} {H : Hp} {Q : VK} (h : canE X.K b (dLc ti g tt te vs) σ H Q) : tLc (canI X.K b ti) (canG X.K b vs g) (canT X.K b tt) (canE X.K b te) vs σ H Q := by
  obtain ⟨Φ, η, Qd, x, q, k⟩ := h
  refine ⟨Φ, η, _, x, q, fun J H1 Φ1 η1 ds x1 S1 wk q1 => ?_⟩
  obtain ⟨ok1, q1⟩ := q1
  intro L hL
  have hL0 : H L = none := by
    cases e : H L with
    | none => rfl
    | some u => exact absurd hL (S1.trk L (by rw [e]; simp))
  have hLb : b.H L = none := x.still L hL0
  obtain ⟨x1', S1'⟩ := (x1.wipe ok1).allocOwn (u := .lst []) hL
  have nL1 : ¬ Ow (wipe σ vs) (wipeD η1 vs) L := (x1.wipe ok1).nowN hL
  have fL : Φ1 L = none := x1.free0 hL
  refine ⟨fun i m Hc => ∃ Φc ηc acc av, Rep X.K b (wipe σ vs) Hc Φc ηc ∧ Stp (wipe σ vs) H1 Φ1 (wipeD η1 vs) Hc Φc ηc ∧ Hc L = some (.lst av) ∧ Rs X.K Φc acc av ∧ Φc L = none ∧
    lcL g tt te vs (fun acc η2 => Qd (.own (.lst acc)) (restD η1 η2 vs)) (ds.drop i) acc ηc ∧ m = ds.length - i ∧ i ≤ ds.length, ⟨_, Φ1, _, [], [], x1', S1', upd_same, rfl, fL, q1, rfl, Nat.zero_le _⟩, ?_⟩
  rintro i m Hc ⟨Φc, ηc, acc, av, xc, Sc, hD, rs, fD, qc, rfl, hi⟩
  have nD : ¬ Ow (wipe σ vs) ηc L := fun ⟨j, h1, h2⟩ => nL1 ⟨j, Sc.sub j h1, h2⟩
  obtain ⟨wg, ws⟩ := wk i Hc (Sc.le.trans xc.held)
  by_cases hlt : i < ds.length
  case neg =>
    have e : i = ds.length := by omega
    subst e
    rw [List.drop_length] at qc
    refine .inl ⟨ws (Nat.le_refl _), ?_⟩
    obtain ⟨xr, Sr⟩ := x1.restore xc Sc ok1
    refine k _ Hc Φc _ (.own (.lst acc)) xr (S1.trans Sr) ⟨L, rfl, ⟨fD, av, hD, rs⟩, hL0, fun ⟨j, h1, h2⟩ => ?_⟩ qc
    exact (x1.of_ow ⟨j, Sr.sub j h1, h2⟩).2 hL
  rw [List.drop_eq_getElem_cons hlt] at qc
  obtain ⟨go, yl⟩ := wg ds[i] (List.getElem?_eq_getElem hlt)
  refine .inr ⟨go, fun Hc => ∃ Φc ηc acc av, Rep X.K b (wipe σ vs) Hc Φc ηc ∧ Stp (wipe σ vs) H1 Φ1 (wipeD η1 vs) Hc Φc ηc ∧ Hc L = some (.lst av) ∧ Rs X.K Φc acc av ∧ Φc L = none ∧
    lcL g tt te vs (fun acc η2 => Qd (.own (.lst acc)) (restD η1 η2 vs)) (ds.drop (i + 1)) acc ηc, ?_, fun xv H' y => ?_⟩
  · rintro H' ⟨Φ', η', acc', av', h1, h2, h3, h4, h5, h6⟩
    exact ⟨ds.length - (i + 1), by omega, Φ', η', acc', av', h1, h2, h3, h4, h5, h6, rfl, hlt⟩
  -- one turn
  have turn : ∀ {H3 Φ3 : Hp}, Rep X.K b (wipe σ vs) H3 Φ3 ηc → Stp (wipe σ vs) Hc Φc ηc H3 Φ3 ηc → R X.K Φ3 ds[i] xv → canG X.K b vs g xv (wipe σ vs) H3 fun σ2 H2 => wipe σ2 vs = wipe σ vs ∧ canT X.K b tt σ2 H2 fun kk H3 =>
      if kk = true then canE X.K b te σ2 H3 fun y H4 => ∃ accv, H4 L = some (.lst accv) ∧ accv.length < sizeLine ∧ (∃ Φc ηc acc av, Rep X.K b (wipe σ vs) (upd H4 L (.lst (accv ++ [y]))) Φc ηc ∧ Stp (wipe σ vs) H1 Φ1 (wipeD η1 vs) (upd H4 L (.lst (accv ++ [y]))) Φc ηc ∧ (upd H4 L (.lst (accv ++ [y]))) L = some (.lst av) ∧ Rs X.K Φc acc av ∧ Φc L = none ∧
        lcL g tt te vs (fun acc η2 => Qd (.own (.lst acc)) (restD η1 η2 vs)) (ds.drop (i + 1)) acc ηc)
      else ∃ Φc ηc acc av, Rep X.K b (wipe σ vs) H3 Φc ηc ∧ Stp (wipe σ vs) H1 Φ1 (wipeD η1 vs) H3 Φc ηc ∧ H3 L = some (.lst av) ∧ Rs X.K Φc acc av ∧ Φc L = none ∧
        lcL g tt te vs (fun acc η2 => Qd (.own (.lst acc)) (restD η1 η2 vs)) (ds.drop (i + 1)) acc ηc := fun {H3 Φ3} x3 S3 rr => by
    refine ⟨Φ3, ηc, ds[i], _, x3, rr, qc, fun σ4 η4 x4 o4 w4 q4 => ?_⟩
    have eL : σ4.length = (wipe σ vs).length := by rw [x4.len, x3.len]; exact w4.1
    have ew : wipe σ4 vs = wipe σ vs := (wipe_eq eL fun j hj => (o4 j hj).1).trans (wipe_wipe σ vs)
    have hD3 : H3 L = some (.lst av) := S3.keep L _ hD nD fun ps z => by cases z
    have fD3 : Φ3 L = none := S3.nof L (by rw [hD]; simp) fD nD
    have n4 : ¬ Ow σ4 η4 L := fun ⟨j, h1, h2⟩ => by
      obtain ⟨h3, h4⟩ := w4.2 j h1
      exact nD ⟨j, h3, by rw [← (o4 j h4).1]; exact h2⟩
    refine ⟨ew, Φ3, η4, _, x4, q4, fun kk H5 Φ5 η5 x5 S5 q5 => ?_⟩
    have hD5 : H5 L = some (.lst av) := S5.keep L _ hD3 n4 fun ps z => by cases z
    have fD5 : Φ5 L = none := S5.nof L (by rw [hD3]; simp) fD3 n4
    have n5 : ¬ Ow σ4 η5 L := fun ⟨j, h1, h2⟩ => n4 ⟨j, S5.sub j h1, h2⟩
    -- from the turn's names back to the block's
    have back : ∀ {H6 Φ6 : Hp} {η6 : En}, Rep X.K b σ4 H6 Φ6 η6 → Stp σ4 H3 Φ3 η4 H6 Φ6 η6 → wipeOk η6 vs → Stp (wipe σ vs) H1 Φ1 (wipeD η1 vs) H6 Φ6 (wipeD η6 vs) := fun {H6 Φ6 η6} x6 S6 ok6 => by
      have S03 := Sc.trans S3
      have nw : ∀ a, ¬ Ow (wipe σ vs) ηc a → ¬ Ow σ4 η4 a := fun a n ⟨j, h1, h2⟩ => by
        obtain ⟨h3, h4⟩ := w4.2 j h1
        exact n ⟨j, h3, by rw [← (o4 j h4).1]; exact h2⟩
      have nw0 : ∀ a, ¬ Ow (wipe σ vs) (wipeD η1 vs) a → ¬ Ow (wipe σ vs) ηc a := fun a n ⟨j, h1, h2⟩ => n ⟨j, Sc.sub j h1, h2⟩
      refine ⟨S03.le.trans S6.le, fun a o h n t => S6.keep a o (S03.keep a o h n t) (nw a (nw0 a n)) t, fun a h f n => S6.nof a (S03.trk a h) (S03.nof a h f n) (nw a (nw0 a n)), fun j h => ?_, fun j h => ?_, ?_, fun a h => S6.trk a (S03.trk a h)⟩
      · rw [wipeD_slot] at h
        by_cases hj : j ∈ vs
        · rw [if_pos hj] at h; cases h
        · rw [if_neg hj] at h
          obtain ⟨h3, h4⟩ := w4.2 j (S6.sub j h)
          exact Sc.sub j h3
      · rw [wipeD_slot] at h ⊢
        by_cases hj : j ∈ vs
        · rw [if_pos hj]
        · rw [if_neg hj] at h
          have e4 := S6.nn j h
          rw [(o4 j hj).2] at e4
          have := Sc.nn j e4
          rw [wipeD_slot, if_neg hj] at this
          rw [if_neg hj]; exact this
      · rw [wipeD_len, ← x6.len, eL, ← (x1.wipe ok1).len]
    cases kk with
    | false =>
      rw [if_neg Bool.false_ne_true] at q5
      refine iteF ?_
      obtain ⟨ok5, q5⟩ := q5
      have x6 := x5.wipe ok5
      rw [ew] at x6
      exact ⟨Φ5, _, acc, av, x6, back x5 S5 ok5, hD5, rs.mono (S3.le.trans S5.le), fD5, q5⟩
    | true =>
      rw [if_pos rfl] at q5
      refine iteT ?_
      refine ⟨Φ5, η5, _, x5, q5, fun yv H6 Φ6 η6 r x6 S6 rv q6 => ?_⟩
      obtain ⟨d, Φ7, η7, x7, S7, rr7, hz, ok7, q7⟩ := frz_ok x5 x6 S6 rv q6
      have hD6 : H6 L = some (.lst av) := S6.keep L _ hD5 n5 fun ps z => by cases z
      have fD7 : Φ7 L = none := S7.nof L (by rw [hD5]; simp) fD5 n5
      have n7 : ¬ Ow σ4 η7 L := fun ⟨j, h1, h2⟩ => n5 ⟨j, S7.sub j h1, h2⟩
      have x8 := x7.wipe ok7
      rw [ew] at x8
      have n8 : ¬ Ow (wipe σ vs) (wipeD η7 vs) L := fun z => n7 (by rw [← ew] at z; exact (ow_wipe z).1)
      have S8 := back x7 (S5.trans S7) ok7
      have rsa := (rs.mono (S3.le.trans (S5.le.trans S7.le))).app (Rs.one rr7)
      refine ⟨av, hD6, by rw [← rs.length]; exact hz, Φ7, _, acc ++ [d], _, x8.writeFree (av' := av ++ [yv]) hD6 hLb fD7 n8, ?_, upd_same, rsa, fD7, q7⟩
      refine ⟨S8.le, fun a o h n t => ?_, S8.nof, S8.sub, S8.nn, S8.ln, fun a h => upd_some (S8.trk a h)⟩
      have ne : a ≠ L := fun z => by rw [z, hL] at h; cases h
      rw [upd_ne ne]; exact S8.keep a o h n t
  rcases yl xv H' y with ⟨rfl, rr⟩ | ⟨T, zs, es, hT, rfl, rfl, ed, rse⟩
  · exact turn xc .refl (rr.mono Sc.le)
  · obtain ⟨x3, S3⟩ := xc.alloc (u := .tup zs) hT (fun ps z => by cases z)
    refine turn x3 S3 ?_
    rw [ed]
    exact ⟨T, zs, rfl, .inl (.inl upd_same), rse.mono (Sc.le.trans S3.le)⟩
/-- as a value -/
theorem de_lc (own : List (Str × Nat)) (hc : X.calm = true) (hN : X.N.Nodup) (hi : DI X b tg iter ti) (ok : BlkOk X.N X.env.scope scope own)
    (hg : ∀ (s : Shared) (H : Hp) (C : Addr) (cl : List (Str × Addr)) (fp : List Addr), DG (X.blk s H scope (compEnvC scope cl C X.env) fp) b tg (own.map (·.2)) g) (ht : ∀ (s : Shared) (H : Hp) (C : Addr) (cl : List (Str × Addr)) (fp : List Addr), DTs (X.blk s H scope (compEnvC scope cl C X.env) fp) b ifs tt)
    (he : ∀ (s : Shared) (H : Hp) (C : Addr) (cl : List (Str × Addr)) (fp : List Addr), DE (X.blk s H scope (compEnvC scope cl C X.env) fp) b elt te) (hs : ∀ x, foldedSetIterable iter X.env x = pure x := by intro _; rfl) :
    DE X b (.ListComp elt [⟨tg, iter, ifs, 0⟩] scope pos) (dLc ti g tt te (own.map (·.2))) :=
  ⟨pe_imp (pe_lc hc hN hi.pi ok (fun s H C cl fp => (hg s H C cl fp).pg) (fun s H C cl fp => (ht s H C cl fp).pts) (fun s H C cl fp => (he s H C cl fp).pe) hs) fun σ H Q h => lc_can h⟩
variable {i : Nat} {y : Str} {py : Pos}
theorem ds_setLc (own : List (Str × Nat)) (hc : X.calm = true) (hN : X.N.Nodup) (hi : DI X b tg iter ti) (ok : BlkOk X.N X.env.scope scope own)
    (hg : ∀ (s : Shared) (H : Hp) (C : Addr) (cl : List (Str × Addr)) (fp : List Addr), DG (X.blk s H scope (compEnvC scope cl C X.env) fp) b tg (own.map (·.2)) g) (ht : ∀ (s : Shared) (H : Hp) (C : Addr) (cl : List (Str × Addr)) (fp : List Addr), DTs (X.blk s H scope (compEnvC scope cl C X.env) fp) b ifs tt)
    (he : ∀ (s : Shared) (H : Hp) (C : Addr) (cl : List (Str × Addr)) (fp : List Addr), DE (X.blk s H scope (compEnvC scope cl C X.env) fp) b elt te) (hsw : swapsWith (.ListComp elt [⟨tg, iter, ifs, 0⟩] scope pos) (some (.Name y py)) spos.line X.env = pure true)
    (hy : X.N[i]? = some y := by rfl) (hyl : X.env.scope.names.lookup y = some .local := by rfl) (hs : ∀ x, foldedSetIterable iter X.env x = pure x := by intro _; rfl) :
    DS X b (.Assign [.Name y py] (.ListComp elt [⟨tg, iter, ifs, 0⟩] scope pos) spos) (dSet i (dLc ti g tt te (own.map (·.2)))) := ⟨ps_imp (ps_setLc hc hN hy hyl hsw hi.pi ok (fun s H C cl fp => (hg s H C cl fp).pg) (fun s H C cl fp => (ht s H C cl fp).pts) (fun s H C cl fp => (he s H C cl fp).pe) hs) fun D σ H h => by
  obtain ⟨Φ, η, Dd, x, q, k, _⟩ := h
  refine lc_can ⟨Φ, η, _, x, q, fun v H1 Φ1 η1 r x1 S1 rv q1 => ?_⟩
  obtain ⟨Φ2, η2, x2, le2, q2⟩ := setF_ok x x1 S1 rv q1
  exact k _ H1 Φ2 η2 x2 le2 q2⟩
theorem ds_setOLc (own : List (Str × Nat)) (hc : X.calm = true) (hN : X.N.Nodup) (hi : DI X b tg iter ti) (ok : BlkOk X.N X.env.scope scope own)
    (hg : ∀ (s : Shared) (H : Hp) (C : Addr) (cl : List (Str × Addr)) (fp : List Addr), DG (X.blk s H scope (compEnvC scope cl C X.env) fp) b tg (own.map (·.2)) g) (ht : ∀ (s : Shared) (H : Hp) (C : Addr) (cl : List (Str × Addr)) (fp : List Addr), DTs (X.blk s H scope (compEnvC scope cl C X.env) fp) b ifs tt)
    (he : ∀ (s : Shared) (H : Hp) (C : Addr) (cl : List (Str × Addr)) (fp : List Addr), DE (X.blk s H scope (compEnvC scope cl C X.env) fp) b elt te) (hsw : swapsWith (.ListComp elt [⟨tg, iter, ifs, 0⟩] scope pos) (some (.Name y py)) spos.line X.env = pure true)
    (hy : X.N[i]? = some y := by rfl) (hyl : X.env.scope.names.lookup y = some .local := by rfl) (hs : ∀ x, foldedSetIterable iter X.env x = pure x := by intro _; rfl) :
    DS X b (.Assign [.Name y py] (.ListComp elt [⟨tg, iter, ifs, 0⟩] scope pos) spos) (dSetO i (dLc ti g tt te (own.map (·.2)))) := ⟨ps_imp (ps_setLc hc hN hy hyl hsw hi.pi ok (fun s H C cl fp => (hg s H C cl fp).pg) (fun s H C cl fp => (ht s H C cl fp).pts) (fun s H C cl fp => (he s H C cl fp).pe) hs) fun D σ H h => by
  obtain ⟨Φ, η, Dd, x, q, k, _⟩ := h
  refine lc_can ⟨Φ, η, _, x, q, fun v H1 Φ1 η1 r x1 S1 rv q1 => ?_⟩
  obtain ⟨Φ2, η2, x2, le2, q2⟩ := setO_ok x x1 S1 rv q1
  exact k _ H1 Φ2 η2 x2 le2 q2⟩
end
end DL

set_option Elab.async false
set_option linter.all false
set_option maxRecDepth 100000
namespace DL
open PySem PySem.Spec PyProof.Rows L2 LamX

def lsQ (s : Sl) (Q : List D → Prop) : Prop := match s with
  | .own (.lst ds) => Q ds
  | .bor (.lst ds) => Q ds
  | _ => False
abbrev DLM := List D → List D → (D → List D → Prop) → Prop
def dLm (i : Nat) (rd : DLM) (ta : DTA) : DTE := fun η Q => lsQ (slot η i) fun _ => ta η fun as η1 => dsQ as fun args => lsQ (slot η1 i) fun ds => rd ds args fun res ds' => Q (.fz res) (η1.set i (reS (slot η1 i) (.lst ds')))
def dLm0 (i : Nat) (rd : DLM) : DTE := fun η Q => lsQ (slot η i) fun ds => rd ds [] fun res ds' => Q (.fz res) (η.set i (reS (slot η i) (.lst ds')))
structure LM (K : PySem.W.Frag) (r : V → List V → Hp → VK → Prop) (rd : DLM) : Prop where
  ok : ∀ (H Φ : Hp) (a : Addr) (vs ws : List V) (ds args : List D) (Qd : D → List D → Prop) (Qh : VK), H a = some (.lst vs) → Same Φ H → Rs K Φ ds vs → Rs K Φ args ws → rd ds args Qd →
    (∀ v res ds' vs', R K Φ res v → Rs K Φ ds' vs' → Qd res ds' → Qh v (upd H a (.lst vs'))) → r (.ref a) ws H Qh
section
variable {X : Cx} {b : Bs} {x name : Str} {p apos pos : Pos} {id : String} {e : Expr} {es : List Expr} {r : V → List V → Hp → VK → Prop} {rd : DLM} {ta : DTA}
theorem ls_at {K : PySem.W.Frag} {σ : L2.St} {H Φ : Hp} {η : En} {i : Nat} {Q : List D → Prop} (x : Rep K b σ H Φ η) (q : lsQ (slot η i) Q) :
    ∃ a ds vs, (slot η i).isOwn = true ∧ σ[i]? = some (some (.ref a)) ∧ H a = some (.lst vs) ∧ Rs K Φ ds vs ∧ Φ a = none ∧ Q ds := by
  have z := x.sl i
  unfold lsQ at q
  split at q
  · rename_i ds e
    rw [e] at z
    obtain ⟨a, h1, f, vs, h2, rs⟩ := z
    exact ⟨a, ds, vs, by rw [e]; rfl, join_some h1, h2, rs, f, q⟩
  · rename_i ds e
    rw [e] at z
    obtain ⟨a, h1, f, vs, h2, rs⟩ := z
    exact ⟨a, ds, vs, by rw [e]; rfl, join_some h1, h2, rs, f, q⟩
  · exact q.elim
theorem de_lm (i : Nat) (L : LM X.K r rd) (hm : MtR X id r) (sl : PySem.Slot "list" name id) (hty : typeOf (.builtin id) = pure (.type "method_descriptor")) (ha : DA X b (e :: es) ta)
    (hN : X.N[i]? = some x := by rfl) (hv : Vis X.env.scope x := by first | exact Or.inl rfl | exact Or.inr (Or.inl rfl) | exact Or.inr (Or.inr rfl))
    (hd : (x == ("__debug__" : Str)) = false := by decide) (hcd : (x == ("__classdict__" : Str)) = false := by decide)
    (hbase : attributeBase (.Name x p) name X.env (eval (.Name x p) X.env) = eval (.Name x p) X.env := by rfl)
    (hfew : ((backTo pos (starEach (e :: es) X.env)).all (fun x => !x.1) && (backToKw pos (keywordEach [] X.env)).all (fun x => x.1.isSome) && decide ((e :: es).length + ([] : List Keyword).length + (if ([] : List Keyword).isEmpty then 0 else 1) < 30)) = true := by rfl)
    (hline : (apos.endLine == pos.line) = true := by rfl) (hs : starEach (e :: es) X.env = (false, eval e X.env) :: starEach es X.env := by rfl) (hplain : (backTo pos (starEach es X.env)).any (·.1) = false := by rfl) :
    DE X b (.Call (.Attribute (.Name x p) name apos) (e :: es) [] pos) (dLm i rd ta) := by
  refine ⟨pe_imp (pe_bm PySem.F.plainAttrs_list sl hty hm (pe_var hN hv hd hcd) ha.pa hbase hfew hline hs hplain) fun σ H Q h => ?_⟩
  obtain ⟨Φ, η, Qd, x, q, k⟩ := h
  obtain ⟨a, ds, vs, ho, hs, hH, rs, f, q⟩ := ls_at x q
  refine ⟨.ref a, hs, .inl ⟨rfl, vs, .inl (.inl hH)⟩, Φ, η, _, x, q, fun ws H1 Φ1 η1 as x1 S1 ra q1 => ?_⟩
  obtain ⟨args, rsa, q2⟩ := ds_ok ra q1
  obtain ⟨a1, ds1, vs1, ho1, hs1, hH1, rs1, f1, q3⟩ := ls_at x1 q2
  rw [hs] at hs1; cases hs1
  refine L.ok H1 Φ1 a vs1 ws ds1 args _ Q hH1 x1.held rs1 rsa q3 fun v res ds' vs' rr rs' qn => ?_
  obtain ⟨x2, S2⟩ := x1.write (o' := .lst ds') (u := .lst vs') ho1 hs (fun ps z => by cases z) ⟨f1, vs', upd_same, rs'⟩
  exact k v _ Φ1 _ (.fz res) x2 (S1.trans S2) rr qn
theorem de_lm0 (i : Nat) (L : LM X.K r rd) (hm : MtR X id r) (sl : PySem.Slot "list" name id) (hty : typeOf (.builtin id) = pure (.type "method_descriptor"))
    (hN : X.N[i]? = some x := by rfl) (hv : Vis X.env.scope x := by first | exact Or.inl rfl | exact Or.inr (Or.inl rfl) | exact Or.inr (Or.inr rfl))
    (hd : (x == ("__debug__" : Str)) = false := by decide) (hcd : (x == ("__classdict__" : Str)) = false := by decide)
    (hbase : attributeBase (.Name x p) name X.env (eval (.Name x p) X.env) = eval (.Name x p) X.env := by rfl) (hline : (apos.endLine == pos.line) = true := by rfl) :
    DE X b (.Call (.Attribute (.Name x p) name apos) [] [] pos) (dLm0 i rd) := by
  refine ⟨pe_imp (pe_bm0 PySem.F.plainAttrs_list sl hty hm (pe_var hN hv hd hcd) hbase hline) fun σ H Q h => ?_⟩
  obtain ⟨Φ, η, Qd, x, q, k⟩ := h
  obtain ⟨a, ds, vs, ho, hs, hH, rs, f, q⟩ := ls_at x q
  refine ⟨.ref a, hs, .inl ⟨rfl, vs, .inl (.inl hH)⟩, ?_⟩
  refine L.ok H Φ a vs [] ds [] _ Q hH x.held rs rfl q fun v res ds' vs' rr rs' qn => ?_
  obtain ⟨x2, S2⟩ := x.write (o' := .lst ds') (u := .lst vs') ho hs (fun ps z => by cases z) ⟨f, vs', upd_same, rs'⟩
  exact k v _ Φ _ (.fz res) x2 S2 rr qn
def appD : DLM := fun ds args Q => match args with
  | [d] => ds.length < sizeLine ∧ Q .non (ds ++ [d])
  | _ => False
theorem lm_app {K : PySem.W.Frag} : LM K rAppend appD := ⟨fun H Φ a vs ws ds args Qd Qh hH le rs ra q k => by
  unfold appD at q
  split at q
  · obtain ⟨v, r, rfl, rr, e⟩ := ra
    rw [show r = [] from e]
    exact ⟨a, vs, v, rfl, rfl, hH, by rw [← rs.length]; exact q.1, k .non .non _ _ rfl (rs.app (Rs.one rr)) q.2⟩
  · exact q.elim⟩
def extD : DLM := fun ds args Q => match args with
  | [.lst es] => ds.length + es.length ≤ sizeLine ∧ Q .non (ds ++ es)
  | _ => False
theorem lm_ext {K : PySem.W.Frag} : LM K rExtend extD := ⟨fun H Φ a vs ws ds args Qd Qh hH le rs ra q k => by
  unfold extD at q
  split at q
  · obtain ⟨v, r, rfl, rr, e⟩ := ra
    obtain ⟨c, zs, rfl, hc, rc⟩ := rr
    rw [show r = [] from e]
    exact ⟨a, c, vs, zs, rfl, rfl, hH, le _ _ hc, by rw [← rs.length, ← rc.length]; exact q.1, k .non .non _ _ rfl (rs.app rc) q.2⟩
  · exact q.elim⟩
theorem Rs.erase {K : PySem.W.Frag} {Φ : Hp} : ∀ {ds : List D} {vs : List V} (j : Nat), Rs K Φ ds vs → Rs K Φ (ds.eraseIdx j) (vs.eraseIdx j)
  | [], vs, j, h => by rw [show vs = [] from h]; rfl
  | d :: ds, vs, 0, h => by obtain ⟨v, r, rfl, _, q⟩ := h; exact q
  | d :: ds, vs, j + 1, h => by obtain ⟨v, r, rfl, h1, q⟩ := h; exact ⟨v, r.eraseIdx j, rfl, h1, Rs.erase j q⟩
def popAtD : DLM := fun ds args Q => match args with
  | [.int i] => (-(2 ^ 63) ≤ i ∧ i < 2 ^ 63) ∧ ∃ k d, seqIndex? i ds.length = some k ∧ ds[k]? = some d ∧ Q d (ds.eraseIdx k)
  | _ => False
theorem lm_popAt {K : PySem.W.Frag} : LM K rPopAt popAtD := ⟨fun H Φ a vs ws ds args Qd Qh hH le rs ra q k => by
  unfold popAtD at q
  split at q
  · obtain ⟨v, r, rfl, rr, e⟩ := ra
    rw [show r = [] from e]
    rw [show v = .int _ from rr]
    obtain ⟨hb, n, d, h1, h2, q⟩ := q
    obtain ⟨y, hy, ry⟩ := rs.get h2
    exact ⟨a, vs, _, n, y, rfl, rfl, hH, hb.1, hb.2, by rw [← rs.length]; exact h1, hy, k y d _ _ ry (rs.erase n) q⟩
  · exact q.elim⟩
def popD : DLM := fun ds args Q => args = [] ∧ ∃ d, ds[ds.length - 1]? = some d ∧ Q d ds.dropLast
theorem Rs.dropLast {K : PySem.W.Frag} {Φ : Hp} {ds : List D} {vs : List V} (h : Rs K Φ ds vs) : Rs K Φ ds.dropLast vs.dropLast := by
  rw [List.dropLast_eq_take, List.dropLast_eq_take, h.length]
  exact h.take _
theorem lm_pop {K : PySem.W.Frag} : LM K rPop popD := ⟨fun H Φ a vs ws ds args Qd Qh hH le rs ra q k => by
  obtain ⟨ea, d, hd, q⟩ := q
  subst ea
  obtain ⟨y, hy, ry⟩ := rs.get hd
  exact ⟨a, vs, y, rfl, ra, hH, by rw [← rs.length]; exact hy, k y d _ _ ry rs.dropLast q⟩⟩
def insD : DLM := fun ds args Q => match args with
  | [.int i, d] => ds.length < sizeLine ∧ (0 ≤ i ∧ i < 2 ^ 63) ∧ Q .non (ds.take i.toNat ++ [d] ++ ds.drop i.toNat)
  | _ => False
theorem lm_ins {K : PySem.W.Frag} : LM K (fun x vs H Q => ∃ (l : Addr) (xs : List V) (i : Int) (y : V), x = .ref l ∧ vs = [.int i, y] ∧ H l = some (.lst xs) ∧ xs.length < sizeLine ∧ 0 ≤ i ∧ i < 2 ^ 63 ∧ Q .non (upd H l (.lst (xs.take i.toNat ++ [y] ++ xs.drop i.toNat)))) insD := ⟨fun H Φ a vs ws ds args Qd Qh hH le rs ra q k => by
  unfold insD at q
  split at q
  · obtain ⟨v, r, rfl, rr, y, r2, rfl, ry, e⟩ := ra
    rw [show r2 = [] from e]
    rw [show v = .int _ from rr]
    exact ⟨a, vs, _, y, rfl, rfl, hH, by rw [← rs.length]; exact q.1, q.2.1.1, q.2.1.2, k .non .non _ _ rfl (((rs.take _).app (Rs.one ry)).app (rs.drop _)) q.2.2⟩
  · exact q.elim⟩
/-- x[i] = v, of a name's list -/
def dPut (i : Nat) (ti tv : DTE) : DTS := fun D η => tv η fun r η1 => frzQ r η1 fun d η2 => (slot η2 i).isOwn = true ∧ ti η2 fun r2 η3 => rdQ r2 η3 fun z => intQ z fun k => lsQ (slot η3 i) fun ds => ∃ j, ixN ds.length k = some j ∧ D.nx (η3.set i (reS (slot η3 i) (.lst (ds.set j d))))
theorem ds_put (i : Nat) {ix v : Expr} {ti tv : DTE} {spos : Pos} (hi : DE X b ix ti) (hv : DE X b v tv)
    (hN : X.N[i]? = some x := by rfl) (hvs : Vis X.env.scope x := by first | exact Or.inl rfl | exact Or.inr (Or.inl rfl) | exact Or.inr (Or.inr rfl))
    (hd : (x == ("__debug__" : Str)) = false := by decide) (hcd : (x == ("__classdict__" : Str)) = false := by decide)
    (ha : ∀ v, assign (.Subscript (.Name x p) ix pos) X.env v = (do
      let ov ← holding [v] (eval (.Name x p) X.env)
      let iv ← holding [v, ov] (eval ix X.env)
      standAt pos
      holding [v, ov, iv] (setItem ov iv v)
      release [v, ov, iv] []) := by intro _; rfl)
    (hs : swapsWithSole [.Subscript (.Name x p) ix pos] v spos.line X.env = pure false := by rfl) (hw : swappedStores [.Subscript (.Name x p) ix pos] v X.env = pure none := by rfl)
    (h1 : (assignEach [.Subscript (.Name x p) ix pos] X.env).map (·.2) = [assign (.Subscript (.Name x p) ix pos) X.env] := by rfl) :
    DS X b (.Assign [.Subscript (.Name x p) ix pos] v spos) (dPut i ti tv) := ⟨ps_imp (ps_asg hv.pe (pg_sub (pe_var hN hvs hd hcd) hi.pe set_list ha) hs hw h1) fun D σ H h => by
  obtain ⟨Φ, η, Dd, x, q, k, _⟩ := h
  refine ⟨Φ, η, _, x, q, fun u H1 Φ1 η1 r x1 S1 rv q1 => ?_⟩
  obtain ⟨d, Φ2, η2, x2, S2, rr, ho2, q2⟩ := frz_ok x x1 S1 rv q1
  have w : ∃ a, σ[i]? = some (some (.ref a)) := by
    have z := x2.sl i
    cases e : slot η2 i with
    | no => rw [e] at ho2; cases ho2
    | fz d => rw [e] at ho2; cases ho2
    | own o => rw [e] at z; obtain ⟨a, hv, _⟩ := z; exact ⟨a, join_some hv⟩
    | bor o => rw [e] at z; obtain ⟨a, hv, _⟩ := z; exact ⟨a, join_some hv⟩
  obtain ⟨a, hσ⟩ := w
  refine ⟨.ref a, hσ, Φ2, η2, _, x2, q2, fun iv H3 Φ3 η3 r3 x3 S3 rv3 q3 => ?_⟩
  obtain ⟨z, rz, q4⟩ := rd_ok x3 rv3 q3
  obtain ⟨kk, e, q5⟩ := intQ_ok rz q4
  obtain ⟨a1, ds1, vs1, ho1, hs1, hH1, rs1, f1, j, hj, q6⟩ := ls_at x3 q5
  rw [hσ] at hs1; cases hs1
  obtain ⟨x4, S4⟩ := x3.write (o' := .lst (ds1.set j d)) (u := .lst (vs1.set j u)) ho1 hσ (fun ps z => by cases z) ⟨f1, _, upd_same, rs1.set j (rr.mono S3.le)⟩
  exact ⟨a, vs1, kk, j, rfl, e, hH1, by rw [← rs1.length]; exact hj, k σ _ Φ3 _ x4 (S2.le.trans S3.le) q6⟩⟩
end
end DL

set_option Elab.async false
set_option linter.all false
set_option maxRecDepth 100000
set_option maxHeartbeats 2000000
namespace DL
open PySem PySem.Spec PyProof.Rows L2 LamX

abbrev SuT := Addr → Value → Option Addr → TS
def endN (i : Nat) (D : Ends) : Ends := { nx := fun σ' H' => D.nx (σ'.set i none) H', rt := D.rt, bk := fun σ' H' => D.bk (σ'.set i none) H', ct := fun σ' H' => D.ct (σ'.set i none) H' }
def wAll (K : PySem.W.Frag) (ln i : Nat) (D : Ends) : List (Value × SuT) → WX
  | [] => fun _ _ _ _ => False
  | p :: r => fun cls d σ H => ∃ k, PySem.W.exmOne K cls p.1 = some k ∧ (k = true → ∀ a, H a = none → σ.length = ln → p.2 a cls d (endN i D) (σ.set i (some (.ref a))) H) ∧ (k = false → wAll K ln i D r cls d σ H)
inductive Clauses (X : Cx) (n : Str) : List ExceptHandler → List (Value × SuT) → Prop
  | nil : Clauses X n [] []
  | cons {x : Str} {c : Value} {ts : SuT} {s0 : Stmt} {ss : List Stmt} {p p' : Pos} {hs : List ExceptHandler} {l : List (Value × SuT)} (nm : L2.Names X x c)
      (su : ∀ (a : Addr) (oe : Obj) (cls : Value) (d : Option Addr) (pn : List (Addr × Obj)), Zc cls d oe → (∃ vs, oe.data = .fields vs) → PSs (X.suite a ((a, oe) :: pn)) (s0 :: ss) (ts a cls d)) (rest : Clauses X n hs l) :
      Clauses X n (.ExceptHandler (some (.Name x p)) (some n) (s0 :: ss) p' :: hs) ((c, ts) :: l)
section
variable {X : Cx} {n : Str} {i : Nat} {body : List Stmt} {h0 : ExceptHandler} {hs : List ExceptHandler} {l : List (Value × SuT)} {pos : Pos} {tb : WX → TS}
theorem ofTryF {pins : List (Addr × Obj)} {pn : List (Addr × Obj)} {xe : Value → Shared → Prop} {D : Ends} {f : Flow} {s : Shared} (ok : X.Ok) (h : SP (X.tr (X.pn ++ pins) xe) [] D f s) : SP X pins D f s := by
  cases f with
  | next => obtain ⟨σ', H', J, q⟩ := h; exact ⟨σ', H', J.ofTry ok, q⟩
  | brk => obtain ⟨σ', H', J, q⟩ := h; exact ⟨σ', H', J.ofTry ok, q⟩
  | cont => obtain ⟨σ', H', J, q⟩ := h; exact ⟨σ', H', J.ofTry ok, q⟩
  | ret u => obtain ⟨v, σ', H', J, r, q⟩ := h; exact ⟨v, σ', H', J.ofTry ok, r, q⟩
theorem clauses_run {pins : List (Addr × Obj)} {σ : L2.St} {H : Hp} {D : Ends} {a : Addr} {B h3 : Heap} {s0 sI : Shared} {cls : Value} {d : Option Addr} (ok : X.Ok) (hN : X.N.Nodup) (hi : X.N[i]? = some n) (hl : X.env.kindOf n = some .local) (hf : X.env.frame = some X.env.locals)
    (J : Inv X pins σ H sI) (nb : ∀ b o, sI.heap.get? b = some o → b ∉ frs X.stack → B.get? b = some o) (up : sI.heap.UpToSlots h3) (os : s0.os = sI.os) (ag : AllBare s0.gens) (na : H a = none) (fl : HandSPX.FlyingZ B (X.env :: X.outer) a (Zc cls d) h3) (nL : a ≠ X.env.locals) (nF : a ∉ X.fs)
    (C : Clauses X n hs l) (w : wAll X.K X.N.length i D l cls d σ H) : wpAny (model X.prog X.w) X.A (handleBy (.ref a) X.env hs) (SP X pins D) X.xe { s0 with heap := h3 } := by
  have J3 : Inv X pins σ H { s0 with heap := h3 } := J.landed nb fl.1 up os ag
  induction C with
  | nil => exact False.elim w
  | @cons x c ts st0 ss p p' hs' l' nm su rest ih =>
    obtain ⟨k, hk, yes, no⟩ := w
    obtain ⟨oe, vs, he, hz, hd⟩ := fl.there
    have U := J3.suite he hd na nL nF
    have ty : PySem.W.Looks (model X.prog X.w) h3 (typeOf (.ref a)) cls := fun A Q E s kk q => wpAny_typeOf_ref (kk _ _ he) (by rw [hz.1]; exact q)
    have ex := PySem.W.exm_one (M := model X.prog X.w) J3.kIn ty hk
    refine wpAny_handleBy_cons (codeAny_handlers_test ?_) (by intro q; cases q)
    have name : ∀ {Q E : Value → Shared → Prop}, Q c { s0 with heap := h3 } → wpAny (model X.prog X.w) (X.A.mark (some (.ref a))) (eval (.Name x p) X.env) Q E { s0 with heap := h3 } := fun {Q E} q => by
      obtain ⟨g1, g2, g3 | ⟨g3, g4, g5⟩⟩ := nm
      · exact ld_glob (X := X.suite a ((a, oe) :: (X.pn ++ pins))) U g1 g3 q g2
      · exact ld_blt (X := X.suite a ((a, oe) :: (X.pn ++ pins))) U g1 g3 g4 q g5 g2
    refine name (ex.here ?_)
    cases k with
    | false =>
      show wpAny _ X.A (handleBy (.ref a) X.env hs') _ _ _
      exact ih (no rfl)
    | true =>
      refine codeAny_handlers_suite_as (HandSPX.lands_againZ fl fun h4 fl4 up4 => ?_)
      have J4 : Inv X pins σ H { s0 with heap := h4 } := J.landed nb fl4.1 (up.trans up4) os ag
      obtain ⟨oe4, vs4, e4, z4, d4⟩ := fl4.there
      refine store_ok (X := X.suite a ((a, oe4) :: (X.pn ++ pins))) (v := .ref a) (J4.suite e4 d4 na nL nF) hN hi (.inl hl) rfl (fun s5 U5 => ?_) (.inr hl)
      refine wpAny_mono ((su a oe4 cls d (X.pn ++ pins) z4 ⟨_, d4⟩).run [] s5 _ H _ U5 (yes rfl a na J.len)) (fun f s6 hsp => ?_) fun _ _ z => z.elim
      have fin : ∀ {σ6 : L2.St} {H6 : Hp} {Q : Shared → Prop}, Inv (X.suite a ((a, oe4) :: (X.pn ++ pins))) [] σ6 H6 s6 → (∀ s7, Inv X pins (σ6.set i none) H6 s7 → Q s7) → wpAny (model X.prog X.w) X.A (do bindName X.env n .none; unbindBehindTheSuite X.env n p') (fun _ s7 => Q s7) X.xe s6 :=
        fun {σ6 H6 Q} U6 hq => gone_ok (U6.unsuite ok) hN hi hl hq
      cases f with
      | next => obtain ⟨σ6, H6, U6, q6⟩ := hsp; exact fin U6 fun s7 J7 => ⟨_, _, J7, q6⟩
      | brk => obtain ⟨σ6, H6, U6, q6⟩ := hsp; exact fin U6 fun s7 J7 => ⟨_, _, J7, q6⟩
      | cont => obtain ⟨σ6, H6, U6, q6⟩ := hsp; exact fin U6 fun s7 J7 => ⟨_, _, J7, q6⟩
      | ret u => obtain ⟨v6, σ6, H6, U6, r6, q6⟩ := hsp; exact fin U6 fun s7 J7 => ⟨_, _, _, J7, r6, q6⟩
theorem ps_try_all (hs' : X.stack = X.env :: X.outer) (hf : X.env.frame = some X.env.locals) (hN : X.N.Nodup) (hi : X.N[i]? = some n) (hl : X.env.kindOf n = some .local)
    (hb : ∀ (W : WX) (pn : List (Addr × Obj)) (xe : Value → Shared → Prop), Takes (X.tr pn xe) W → PSs (X.tr pn xe) body (tb W)) (C : Clauses X n (h0 :: hs) l) : PS X (.Try body (h0 :: hs) [] [] pos) (fun D σ H => tb (wAll X.K X.N.length i D l) D σ H) := by
  constructor
  intro pins s σ H D I h
  have ok := I.ok
  have fr : X.A.frames = some (X.env :: X.outer) := by rw [ok.frames, hs']
  let xe' : Value → Shared → Prop := fun e s₁ => wpAny (model X.prog X.w) X.A (noteFrame e X.env) (fun _ s₂ => wpAny (model X.prog X.w) X.A (setFlight e none) (fun _ s₃ => wpAny (model X.prog X.w) X.A (handleBy e X.env (h0 :: hs)) (SP X pins D) X.xe s₃) X.xe s₂) X.xe s₁
  have tk : Takes (X.tr (X.pn ++ pins) xe') (wAll X.K X.N.length i D l) := by
    rintro u s' ⟨a, B, sI, pins', σ', H', cls, d, rfl, J', nb, up, sky, na, os, ag, w⟩
    have sky' : Sky B (X.env :: X.outer) a (Zc cls d) X.env.locals s'.heap := by rw [← hs']; exact sky
    show wpAny (model X.prog X.w) X.A (noteFrame (.ref a) X.env) _ _ _
    refine Sky.land Zc.steady fr hf sky' fun h3 fl up3 => ?_
    obtain ⟨oe, vs, he, hz, hd⟩ := fl.there
    have notFr : a ∉ frs (X.env :: X.outer) := fun hm => by
      obtain ⟨_, o', e', hnf⟩ := fl.2.2.1.mem hm
      rw [he] at e'; cases e'
      exact hnf _ hd
    refine clauses_run (i := i) (s0 := s') ok hN hi hl hf (J'.ofTry ok) nb (up.trans up3) os ag na fl (fun z => notFr ?_) (fun hm => notFr ?_) C w
    · exact List.mem_filterMap.mpr ⟨X.env, List.mem_cons_self, by rw [hf, z]⟩
    · obtain ⟨e, he, q⟩ := List.mem_filterMap.mp hm
      exact List.mem_filterMap.mpr ⟨e, List.mem_cons_of_mem _ he, q⟩
  refine wpAny_Try_except (wpAny_mono ((hb _ _ xe' tk).run [] s σ H D (I.toTry _) h) (fun f s1 q => ?_) fun e s1 he => he)
  have q' := ofTryF (pn := []) ok q
  cases f with
  | next =>
    obtain ⟨σ', H', J', q⟩ := q'
    exact wpAny_execs_nil ⟨σ', H', J', q⟩
  | brk => exact q'
  | cont => exact q'
  | ret u => exact q'
end
end DL

set_option Elab.async false
set_option linter.all false
set_option maxRecDepth 100000
set_option maxHeartbeats 2000000
namespace DL
open PySem PySem.Spec PyProof.Rows L2 LamX

section
variable {X : Cx} {pins : List (Addr × Obj)} {σ : L2.St} {H : Hp} {s : Shared}
theorem upd_free {a c : Addr} {o : HO} (h : upd H a o c = none) : H c = none := by
  by_cases e : c = a
  · rw [e, upd_same] at h; cases h
  · rw [upd_ne e] at h; exact h
theorem lamMade {T : List (Addr × Str)} {c P : Addr} {params : Arguments} {body : Expr} {scope : Scope} {pos : Pos} {E Q : Value → Shared → Prop} (I : Inv X pins σ H s) (TB : TabB X.base X.mg c P) (code : X.env.code = .ref c)
    (inT : (P, X.env.qual ++ "<lambda>") ∈ T) (only : ∀ p ∈ T, p.1 = P → p.2 = X.env.qual ++ "<lambda>") (tabs : Tabs T H) (nodef : defaultsOf params X.env = ([], [])) (free : ∀ y ∈ scope.names, y.2 = .free → ∃ c, X.env.cells.lookup y.1 = some c)
    (k : ∀ (f c' : Addr) (pm ctv : Value) (H1 : Hp) (s' : Shared), Inv X pins σ H1 s' → ExtN H H1 → (∀ b, H1 b = none → H b = none) → Tabs T H1 →
      s'.heap.get? f = some (PySem.W.kla_obj "<lambda>" (X.env.qual ++ "<lambda>") params body scope (cloFrom X.env.cells scope.names []) pm c' ctv) → H1 f = none → f ∉ frs X.stack → H1 c' = some (CodeO c' (X.env.qual ++ "<lambda>")) → Q (.ref f) s') :
    wpAny (model X.prog X.w) X.A (eval (.Lambda params body scope pos) X.env) Q E s := by
  obtain ⟨ps, tP, tr, known⟩ := tabs _ inT
  have bP : s.heap.BuiltinsAt X.mg P := TB.bm.keeps I.bk
  have oP : s.heap.get? P = some { cls := .none, data := .fields ps } := I.hok P _ tP
  have off : ∀ f, s.heap.objs.size ≤ f → f ∉ frs X.stack := fun f hf z => by
    rcases List.mem_cons.mp (I.stkSub _ z) with e | e
    · exact absurd (e ▸ I.lt) (Nat.not_lt.mpr hf)
    · exact I.nofs hf e
  refine PySem.W.kla_eval nodef ?_
  cases hit : codeAmong pos ps.toList with
  | some cv =>
    obtain ⟨c', e, co⟩ := known pos cv hit
    subst e
    refine PySem.W.kla_makeFunctionHit (mg := X.mg) (c := c) (P := P) (ps := ps) (closure_ok free) I.ok.glob (I.mod.glob.keeps I.bk) code (TB.code.keeps I.bk) oP tr hit bP fun ctv h' tk hx hsz => ?_
    have J : Inv X pins σ H { s with heap := h'.push (PySem.W.kla_obj "<lambda>" (X.env.qual ++ "<lambda>") params body scope (cloFrom X.env.cells scope.names []) ((X.mg "__name__").getD .none) c' ctv), toks := tk } :=
      I.kept fun b o e => Heap.get?_push_of_some _ (hx b o e)
    exact k h'.objs.size c' _ ctv H _ J (ExtN.refl H) (fun _ z => z) tabs (Heap.get?_push_size _ rfl) (I.hok.fresh hsz) (off _ hsz) co
  | none =>
    refine PySem.W.kla_makeFunction (mg := X.mg) (c := c) (P := P) (ps := ps) (closure_ok free) I.ok.glob (I.mod.glob.keeps I.bk) code (TB.code.keeps I.bk) oP tr hit TB.gP bP fun c' ctv h' tk hx hge hlt hrec htb => ?_
    obtain ⟨c2, oc, vs, t, e2, hoc, hd, hv⟩ := hrec
    cases e2
    have hsz : s.heap.objs.size ≤ h'.objs.size := Nat.le_trans hge (Nat.le_of_lt hlt)
    have nC : H c' = none := I.hok.fresh hge
    have nPC : P ≠ c' := ne_of_none tP nC
    have J := inv_table (t' := tk) (more := #[rawInt pos.line, rawInt pos.col, .ref c']) (h' := h'.push (PySem.W.kla_obj "<lambda>" (X.env.qual ++ "<lambda>") params body scope (cloFrom X.env.cells scope.names []) ((X.mg "__name__").getD .none) c' ctv)) I tP
      (fun b o hb e => Heap.get?_push_of_some _ (hx b o hb e)) (Heap.get?_push_of_some _ htb) hge ⟨oc, vs, t, Heap.get?_push_of_some _ hoc, hd, hv⟩
    have ext : ExtN H (upd (upd H P (.tbl (ps ++ #[rawInt pos.line, rawInt pos.col, .ref c']))) c' (CodeO c' (X.env.qual ++ "<lambda>"))) := fun b o e nt => by
      have n1 : b ≠ c' := ne_of_none e nC
      have n2 : b ≠ P := fun z => by rw [z, tP] at e; exact nt ps (Option.some.inj e).symm
      rw [upd_ne n1, upd_ne n2]; exact e
    refine k h'.objs.size c' _ ctv _ _ J ext (fun b z => upd_free (upd_free z)) (fun p hp => ?_) (Heap.get?_push_size _ rfl) ?_ (off _ hsz) upd_same
    · by_cases hb : p.1 = P
      · rw [only p hp hb, hb]
        refine ⟨_, by rw [upd_ne nPC, upd_same], ?_, fun p' cv hcv => ?_⟩
        · rw [Array.toList_append]; exact PySem.TriplesOk_snoc _ _ _ _ tr
        · rw [Array.toList_append] at hcv
          rcases among_app _ tr hcv with z | z
          · obtain ⟨c0, e1, e2⟩ := known p' cv z
            exact ⟨c0, e1, ext _ _ e2 codeO_ne⟩
          · exact ⟨c', z, upd_same⟩
      · obtain ⟨qs, a1, a2, a3⟩ := tabs p hp
        refine ⟨qs, by rw [upd_ne (ne_of_none a1 nC), upd_ne hb]; exact a1, a2, fun p' cv hcv => ?_⟩
        obtain ⟨c0, e1, e2⟩ := a3 p' cv hcv
        exact ⟨c0, e1, ext _ _ e2 codeO_ne⟩
    · rw [upd_ne (Nat.ne_of_gt hlt), upd_ne (Nat.ne_of_gt (Nat.lt_of_lt_of_le (Heap.lt_size oP) hsz))]
      exact I.hok.fresh hsz
def tLamM (T : List (Addr × Str)) (TT : (XK → Hp → VK → Prop) → Hp → VK → Prop) (t : XK → TE) : TE := fun σ H Q => Tabs T H ∧ ∀ H1, ExtN H H1 → (∀ b, H1 b = none → H b = none) → Tabs T H1 → TT (fun E H' Q' => t E σ H' Q') H1 Q
/-- x(lambda: body) -/
theorem pe_lamM {T : List (Addr × Str)} {TT : (XK → Hp → VK → Prop) → Hp → VK → Prop} {x a : Str} {g c P : Addr} {k : Nat} {pg : Arguments} {bg : List Stmt} {sg : Scope} {dV kV doc pm cdv ct oc : Value} {an od : Option Addr} {osl : Array (Option Value)} {Ng : List Str}
    {params : Arguments} {body : Expr} {scope : Scope} {t : XK → TE} {p lpos pos : Pos} (hg : Gl X x) (hm : X.mg x = some (.ref g)) (hk : PySem.W.keepIn X.K (.ref g) = true)
    (lk : X.K.lookup g = some ⟨oc, od, .func (PySem.W.fnOf x x pg bg sg dV kV doc pm an cdv ct), osl⟩) (hcg : PySem.W.codeIn X.K cdv x = true) (hb : L2.Binds X.K (PySem.W.fnOf x x pg bg sg dV kV doc pm an cdv ct) [a] []) (Sg : FnScope Ng [a] sg) (hNg : Ng[0]? = some a) (hva : Vis sg a)
    (hG : GivesTo X Ng x sg g cdv bg a (X.env.qual ++ "<lambda>") TT) (TB : TabB X.base X.mg c P) (code : X.env.code = .ref c) (inT : (P, X.env.qual ++ "<lambda>") ∈ T) (only : ∀ p ∈ T, p.1 = P → p.2 = X.env.qual ++ "<lambda>") (hr : Room (k + 2) X.A) (L : LamS X.env.scope scope)
    (nodef : defaultsOf params X.env = ([], [])) (hbind : ∀ (q : Str) (cl : List (Str × Addr)) (pm cv ctv : Value), bindArgs (PySem.W.kla_fn "<lambda>" q params body scope cl pm cv ctv) ⟨[], []⟩ = pure [])
    (hbody : ∀ (A : Around) (outer : List Env) (s : Shared) (H : Hp) (E : XK) (f c' : Addr), Room k (A.deeper (lamEnv X scope s.heap.objs.size f c')) → PE (lamCx X A outer s H E scope f c') body (t E))
    (hdb : (x == ("__debug__" : Str)) = false := by decide) (hd : (a == ("__debug__" : Str)) = false := by decide) (hcd : (a == ("__classdict__" : Str)) = false := by decide) :
    PE X (.Call (.Name x p) [.Lambda params body scope lpos] [] pos) (tLamM T TT t) := by
  constructor
  intro pins s σ H Q I h
  obtain ⟨tabs, h⟩ := h
  refine wpAny_Call_Name_kw (ld_glob I hg hm (PySem.W.callWith_K (h₀ := X.base) I.ok.mod.kin hk ?_ (by rfl) (by rfl)) hdb)
  show wpAny _ _ (spliced ((false, eval (.Lambda params body scope lpos) X.env) :: backTo pos (starEach [] X.env))) _ _ s
  refine Calls.spliced_cons (lamMade I TB code inT only tabs nodef (L.has I.ok) fun f c' pm' ctv H1 s' J ext trk T1 hf hfn hfr hco => ?_)
  refine Calls.spliced_nil ⟨J.kIn, ?_⟩
  refine wpAny_call (codeAny_mono (run_ofS (CX := C8.CX0) (E := C8.E0) (Q := Q) (N := Ng) (ps := [a]) (us := [.ref f]) (vs := [.ref f]) lk hcg Sg hr J.env0 (hb s' [.ref f] J.kIn rfl) (.cons rfl .nil) rfl fun hr' => ?_) fun r s2 hq => ?_)
  · obtain ⟨t', ht', hq'⟩ := hG f c' s' H1 Q (fun E H' Q' => t E σ H' Q') (fun W pn xe E p1 p2 tk hW => pe_act (i := 0) J L hf hfn hfr (hbind _ _ _ _ _) tk hW hr' (fun A outer s H hr2 => hbody A outer s H E f c' hr2) hNg hva hd hcd) hco (h H1 ext trk T1)
    exact ⟨t', ht'.nox, hq'⟩
  · cases r with
    | error e => exact (show False from hq).elim
    | ok fl =>
      cases fl with
      | ret u => exact J.after hq
      | next => exact False.elim hq
      | brk => exact False.elim hq
      | cont => exact False.elim hq
end

def isSub (n m : Nat) : Bool := n == m || m == 0
structure ClsOk (K : PySem.W.Frag) (CL : Nat → Option Addr) : Prop where
  xf : ∀ n C, CL n = some C → XfC K C ∧ PySem.W.findIn K (.ref C) "what" = some none
  em : ∀ n C m M, CL n = some C → CL m = some M → PySem.W.exmOne K (.ref C) (.ref M) = some (isSub n m)
end DL

set_option Elab.async false
set_option linter.all false
set_option maxRecDepth 100000
set_option maxHeartbeats 2000000
namespace DL
open PySem PySem.Spec PyProof.Rows L2 LamX

def hMatch (K : PySem.W.Frag) : List (Addr × Str) → Value → (Str → Prop) → Prop
  | [], _, _ => False
  | p :: r, cls, k => ∃ c, PySem.W.exmOne K cls (.ref p.1) = some c ∧ (c = true → k p.2) ∧ (c = false → hMatch K r cls k)
/-- a new pair of a text and v -/
def twoT (s : Str) (Q : VK) : VK := fun v H' => [V.str s, v].length ≤ sizeLine ∧ ∀ p, H' p = none → Q (.ref p) (upd H' p (.tup [.str s, v]))
def hErr (K : PySem.W.Frag) (hs : List (Addr × Str)) (Q : VK) : XK := fun cls d H' => hMatch K hs cls fun nm => ∃ C dd v, cls = .ref C ∧ XfC K C ∧ PySem.W.findIn K (.ref C) "what" = some none ∧ d = some dd ∧ H' dd = some (.xd [(("what" : Str), v)]) ∧ twoT nm Q v H'
def THeard (K : PySem.W.Frag) (hs : List (Addr × Str)) : (XK → Hp → VK → Prop) → Hp → VK → Prop := fun tl H Q => tl (hErr K hs Q) H (twoT "told" Q)
/-- the clauses: except e as n: return (nm, n.what) -/
inductive HdSh (mg : Str → Option Value) (sg : Scope) (n : Str) : List ExceptHandler → List (Addr × Str) → Prop
  | nil : HdSh mg sg n [] []
  | cons {e nm : Str} {C : Addr} {p p1 p2 p3 p4 p5 p6 : Pos} {j k : Nat} {hs : List ExceptHandler} {l : List (Addr × Str)} (g : sg.names.lookup e = some .globalImplicit) (m : mg e = some (.ref C)) (d : (e == ("__debug__" : Str)) = false) (rest : HdSh mg sg n hs l) :
      HdSh mg sg n (.ExceptHandler (some (.Name e p)) (some n) [.Return (some (.Tuple [.Constant (.str nm) j p1, .Attribute (.Name n p2) "what" p3] k p4)) p5] p6 :: hs) ((C, nm) :: l)
section
variable {X : Cx}
def tWhat (K : PySem.W.Frag) (a : Addr) (cls : Value) (d : Option Addr) (te : TE) : TE := fun σ H Q => ∃ C, XfC K C ∧ PySem.W.findIn K (.ref C) "what" = some none ∧ tXf a cls d C "what" te σ H Q
theorem pe_what {a : Addr} {oe : Obj} {cls : Value} {d : Option Addr} {pn : List (Addr × Obj)} {e : Expr} {te : TE} {pos : Pos} (hz : Zc cls d oe) (hf : ∃ vs, oe.data = .fields vs) (he : PE (X.suite a ((a, oe) :: pn)) e te)
    (hb : attributeBase e "what" X.env (eval e X.env) = eval e X.env) : PE (X.suite a ((a, oe) :: pn)) (.Attribute e "what" pos) (tWhat X.K a cls d te) := by
  constructor
  intro pins s σ H Q I h
  obtain ⟨C, h1, h2, h3⟩ := h
  exact (pe_xf h1 h2 hz hf he hb).run pins s σ H Q I h3
def suRet (K : PySem.W.Frag) (i : Nat) (nm : Str) : SuT := fun a cls d => tRet (tTup (tCons (tC (.str nm)) (tCons (tWhat K a cls d (tVar i)) tNil)))
theorem clauses_of {n : Str} {i : Nat} {hs : List ExceptHandler} {l : List (Addr × Str)} (hN : X.N[i]? = some n) (hv : Vis X.env.scope n) (hd : (n == ("__debug__" : Str)) = false) (hcd : (n == ("__classdict__" : Str)) = false)
    (S : HdSh X.mg X.env.scope n hs l) : Clauses X n hs (l.map fun p => (.ref p.1, suRet X.K i p.2)) := by
  induction S with
  | nil => exact .nil
  | cons g m d rest ih =>
    refine .cons ⟨g, d, .inl m⟩ (fun a oe cls dd pn hz hf => ?_) ih
    exact pss_one (ps_ret (pe_tup (L2.pa_cons pe_str (L2.pa_cons (pe_what hz hf (pe_var (X := X.suite a ((a, oe) :: pn)) hN hv hd hcd) (by rfl)) L2.pa_nil (by rfl)) (by rfl))))
theorem wAll_of {K : PySem.W.Frag} {i ln : Nat} {D : Ends} {cls : Value} {d : Option Addr} {σ : L2.St} {H : Hp} (hi : i < ln) : ∀ {l : List (Addr × Str)}, hErr K l D.rt cls d H → wAll K ln i D (l.map fun p => (.ref p.1, suRet K i p.2)) cls d σ H
  | [], h => h
  | p :: r, h => by
    obtain ⟨c, h1, h2, h3⟩ := h
    refine ⟨c, h1, fun hc a na hl => ?_, fun hc => wAll_of hi (l := r) (h3 hc)⟩
    obtain ⟨C, dd, v, ec, xf, nw, ed, hx, k⟩ := h2 hc
    refine ⟨C, xf, nw, .ref a, ?_, rfl, ec, dd, _, v, ed, hx, rfl, k⟩
    exact List.getElem?_set_self (by rw [hl]; exact hi)
theorem heard_gives {Ng : List Str} {x a n q : Str} {sg : Scope} {g : Addr} {cdg : Value} {i j k : Nat} {h0 : ExceptHandler} {hs : List ExceptHandler} {l : List (Addr × Str)} {p1 p2 p3 p4 p5 p6 : Pos} (nd : Ng.Nodup) (hNi : Ng[i]? = some n) (hl : sg.names.lookup n = some .local)
    (hd : (n == ("__debug__" : Str)) = false) (hcd : (n == ("__classdict__" : Str)) = false) (h0N : 0 < Ng.length) (S : HdSh X.mg sg n (h0 :: hs) l) :
    GivesTo X Ng x sg g cdg [.Try [.Return (some (.Tuple [.Constant (.str "told") j p1, .Call (.Name a p2) [] [] p3] k p4)) p5] (h0 :: hs) [] [] p6] a q (THeard X.K l) := by
  intro f c' s H Q tl act hc h
  refine ⟨_, pss_one (ps_try_all (X := (cxOf C8.CX0 X.prog X.w X.K X.mg X.base Ng x sg g cdg X.A X.stack s H C8.E0).nox) (n := n) (i := i)
      (tb := fun W D σ H' => ∃ E : XK, (∀ cls d σ' H', E cls d H' → W cls d σ' H') ∧ σ[0]? = some (some (.ref f)) ∧ H' c' = some (CodeO c' q) ∧ tl E H' (twoT "told" D.rt))
      rfl rfl nd hNi hl (fun W pn xe tk => ?_) (clauses_of (X := (cxOf C8.CX0 X.prog X.w X.K X.mg X.base Ng x sg g cdg X.A X.stack s H C8.E0).nox) hNi (.inl hl) hd hcd S)), ?_⟩
  · constructor
    intro pins s' σ H' D I h'
    obtain ⟨E, hW, h1, h2, h3⟩ := h'
    have hp := act W pn xe E p2 p3 tk hW
    have hq := pss_one (ps_ret (pos := p5) (pe_tup (x1 := k) (pos := p4) (L2.pa_cons (pe_str (x := "told") (j := j) (pos := p1)) (L2.pa_cons hp L2.pa_nil (by rfl)) (by rfl))))
    exact hq.run pins s' σ H' D I ⟨h1, h2, h3⟩
  · refine ⟨hErr X.K l Q, fun cls d σ' H' h' => wAll_of (D := { nx := fun _ H' => Q .non H', rt := Q }) ?_ h', ?_, hc, h⟩
    · exact (List.getElem?_eq_some_iff.mp hNi).1
    · show ([V.ref f].map some ++ List.replicate (Ng.length - [V.ref f].length) none)[0]? = _
      rfl
end
end DL

set_option Elab.async false
set_option linter.all false
set_option maxRecDepth 100000
set_option maxHeartbeats 2000000
namespace DL
open PySem PySem.Spec PyProof.Rows L2 LamX

def hideS : Sl → Sl
  | .fz d => .fz d
  | _ => .no
def hideE (η : En) : En := η.map hideS
def hQ : List (Nat × Str) → Nat → (Str → Prop) → Prop
  | [], _, _ => False
  | p :: r, n, k => if isSub n p.1 = true then k p.2 else hQ r n k
def dHeard (hs : List (Nat × Str)) (tb : (Nat → D → Prop) → DTE) : DTE := fun η Q =>
  tb (fun n what => hQ hs n fun nm => Q (.fz (.tup [.str nm, what])) η) (hideE η) fun r η' => frzQ r η' fun d _ => Q (.fz (.tup [.str "told", d])) η
section
variable {K : PySem.W.Frag} {b : Bs} {σ : L2.St} {H Φ H' Φ' : Hp} {η : En}
theorem hide_slot : ∀ (η : En) (i : Nat), slot (hideE η) i = hideS (slot η i)
  | [], i => rfl
  | s :: r, 0 => rfl
  | s :: r, i + 1 => hide_slot r i
/-- behind a body that lent nothing -/
theorem Rep.under {E : XK} {ED : Nat → D → Prop} {CL : Nat → Option Addr} (x : Rep K b σ H Φ η) (X' : Ext K ⟨b.T, H, Φ, [], CL, E, ED⟩ H' Φ') : Rep K b σ H' Φ' η ∧ Stp σ H Φ η H' Φ' η := by
  have hh : ∀ c o, H c = some o → (∀ ps, o ≠ .tbl ps) → H' c = some o := fun c o h t => X'.kept c o h (by simp) t
  have tr : ∀ c, H c ≠ none → H' c ≠ none := fun c h z => h (X'.still c z)
  refine ⟨x.moved hh tr X'.grow X'.held X'.nt (fun c h1 h2 => ?_) X'.tabs, Stp.moved hh tr X'.grow fun c h1 h2 => ?_⟩
  · have := X'.frz0 c h1 h2
    exact ⟨x.still c this, x.nowN this⟩
  · cases e : Φ' c with
    | none => rfl
    | some u => exact absurd (X'.frz0 c (by rw [e]; simp) h2) h1
theorem Rep.hidden {E : XK} {ED : Nat → D → Prop} {CL : Nat → Option Addr} (x : Rep K b σ H Φ η) (he : HE K ⟨b.T, H, Φ, [], CL, E, ED⟩) : Rep K ⟨b.T, H, Φ, [], CL, E, ED⟩ σ H Φ (hideE η) where
  held := x.held
  nt := x.nt
  grow := fun _ _ h => h
  kept := fun _ _ h _ _ => h
  still := fun _ h => h
  frz0 := fun _ h1 h2 => absurd h2 h1
  tabs := x.tabs
  len := by rw [x.len]; unfold hideE; rw [List.length_map]
  sl := fun i => by
    rw [hide_slot]
    have q := x.sl i
    cases e : slot η i with
    | fz d => rw [e] at q; exact q
    | no => trivial
    | own o => trivial
    | bor o => trivial
  sep := fun i j a h => by
    rw [hide_slot] at h
    cases e : slot η i <;> rw [e] at h <;> cases h
  ownF := fun i a o h => by
    rw [hide_slot] at h
    cases e : slot η i <;> rw [e] at h <;> cases h
  bor1 := fun i a h => by simp at h
  bor2 := fun i o h => by
    rw [hide_slot] at h
    cases e : slot η i <;> rw [e] at h <;> cases h
  he := he
theorem match_of {CL : Nat → Option Addr} (ok : ClsOk K CL) {n : Nat} {C : Addr} (hC : CL n = some C) {k : Str → Prop} : ∀ {hs : List (Nat × Str)} {hl : List (Addr × Str)}, Paired (fun (p : Nat × Str) (q : Addr × Str) => CL p.1 = some q.1 ∧ p.2 = q.2) hs hl → hQ hs n k → hMatch K hl (.ref C) k
  | _, _, .nil, q => q
  | _, _, .cons r t, q => by
    refine ⟨_, ok.em n C _ _ hC r.1, fun h => ?_, fun h => ?_⟩
    · have q' : (if isSub n _ = true then k _ else hQ _ n k) := q
      rw [if_pos h, r.2] at q'; exact q'
    · have q' : (if isSub n _ = true then k _ else hQ _ n k) := q
      rw [if_neg (by rw [h]; decide)] at q'
      exact match_of ok hC t q'
theorem hMatch.mono {cls : Value} {k k' : Str → Prop} (h : ∀ s, k s → k' s) : ∀ {hl : List (Addr × Str)}, hMatch K hl cls k → hMatch K hl cls k'
  | [], q => q
  | p :: r, ⟨c, h1, h2, h3⟩ => ⟨c, h1, fun z => h _ (h2 z), fun z => hMatch.mono h (h3 z)⟩
theorem pairs_ok : ∀ {s : Str} {d : D} {v : V}, R K Φ d v → Rs K Φ [.str s, d] [.str s, v] := fun {s d v} r => ⟨.str s, [v], rfl, rfl, v, [], rfl, r, rfl⟩
end
section
variable {X : Cx} {b : Bs}
theorem de_heard {x a : Str} {g c P : Addr} {k : Nat} {pg : Arguments} {bg : List Stmt} {sg : Scope} {dV kV doc pm cdv ct oc : Value} {an od : Option Addr} {osl : Array (Option Value)} {Ng : List Str} {hs : List (Nat × Str)} {hl : List (Addr × Str)}
    {params : Arguments} {body : Expr} {scope : Scope} {tb : (Nat → D → Prop) → DTE} {p lpos pos : Pos} (CO : ClsOk X.K b.CL) (hh : Paired (fun (p : Nat × Str) (q : Addr × Str) => b.CL p.1 = some q.1 ∧ p.2 = q.2) hs hl)
    (hg : Gl X x) (hm : X.mg x = some (.ref g)) (hk : PySem.W.keepIn X.K (.ref g) = true)
    (lk : X.K.lookup g = some ⟨oc, od, .func (PySem.W.fnOf x x pg bg sg dV kV doc pm an cdv ct), osl⟩) (hcg : PySem.W.codeIn X.K cdv x = true) (hb : L2.Binds X.K (PySem.W.fnOf x x pg bg sg dV kV doc pm an cdv ct) [a] []) (Sg : FnScope Ng [a] sg) (hNg : Ng[0]? = some a) (hva : Vis sg a)
    (hG : GivesTo X Ng x sg g cdv bg a (X.env.qual ++ "<lambda>") (THeard X.K hl)) (TB : TabB X.base X.mg c P) (code : X.env.code = .ref c) (inT : (P, X.env.qual ++ "<lambda>") ∈ b.T) (only : ∀ p ∈ b.T, p.1 = P → p.2 = X.env.qual ++ "<lambda>") (hr : Room (k + 2) X.A) (L : LamS X.env.scope scope)
    (nodef : defaultsOf params X.env = ([], [])) (hbind : ∀ (q : Str) (cl : List (Str × Addr)) (pm cv ctv : Value), bindArgs (PySem.W.kla_fn "<lambda>" q params body scope cl pm cv ctv) ⟨[], []⟩ = pure [])
    (hbody : ∀ (A : Around) (outer : List Env) (s : Shared) (H : Hp) (E : XK) (f c' : Addr) (H' Φ : Hp) (ED : Nat → D → Prop), Room k (A.deeper (lamEnv X scope s.heap.objs.size f c')) → Takes (lamCx X A outer s H E scope f c') (fun cls d _ H => E cls d H) →
      DE (lamCx X A outer s H E scope f c') ⟨b.T, H', Φ, [], b.CL, E, ED⟩ body (tb ED))
    (hdb : (x == ("__debug__" : Str)) = false := by decide) (hd : (a == ("__debug__" : Str)) = false := by decide) (hcd : (a == ("__classdict__" : Str)) = false := by decide) :
    DE X b (.Call (.Name x p) [.Lambda params body scope lpos] [] pos) (dHeard hs tb) := by
  refine ⟨pe_imp (pe_lamM (T := b.T) (TT := THeard X.K hl) (t := fun E σ HZ Q => ∃ Φ ED, HE X.K ⟨b.T, HZ, Φ, [], b.CL, E, ED⟩ ∧ canE X.K ⟨b.T, HZ, Φ, [], b.CL, E, ED⟩ (tb ED) σ HZ Q) hg hm hk lk hcg hb Sg hNg hva hG TB code inT only hr L nodef hbind (fun A outer s H E f c' hr' => ?_) hdb hd hcd) fun σ H Q h => ?_⟩
  · constructor
    intro pins s' σ H' Q I h
    obtain ⟨Φ, ED, he, h⟩ := h
    exact (hbody A outer s H E f c' H' Φ ED hr' (takes_of rfl rfl rfl rfl)).pe.run pins s' σ H' Q I h
  · obtain ⟨Φ, η, Qd, x, q, kk⟩ := h
    refine ⟨x.tabs, fun H1 ext trk T1 => ?_⟩
    have hmv : ∀ c o, H c = some o → (∀ ps, o ≠ .tbl ps) → H1 c = some o := fun c o h t => ext c o h t
    have tr : ∀ c, H c ≠ none → H1 c ≠ none := fun c h z => h (trk c z)
    have x1 : Rep X.K b σ H1 Φ η := x.moved hmv tr (Same.refl Φ) (fun c o h => ext c o (x.held c o h) fun ps z => x.nt c ps (by rw [h, z])) x.nt (fun c h1 h2 => absurd h2 h1) T1
    have S1 : Stp σ H Φ η H1 Φ η := Stp.moved hmv tr (Same.refl Φ) fun c _ h => h
    -- a new pair is told
    have pair : ∀ {E : XK} {ED : Nat → D → Prop} {H2 Φ2 : Hp} {s : Str} {d : D} {v : V}, Ext X.K ⟨b.T, H1, Φ, [], b.CL, E, ED⟩ H2 Φ2 → R X.K Φ2 d v → Qd (.fz (.tup [.str s, d])) η → twoT s Q v H2 := fun {E ED H2 Φ2 s d v} X2 rr qd => by
      obtain ⟨x2, S2⟩ := x1.under X2
      refine ⟨by show 2 ≤ sizeLine; decide, fun p hp => ?_⟩
      obtain ⟨x3, S3⟩ := x2.alloc (u := .tup [.str s, v]) hp (fun ps z => by cases z)
      exact kk _ _ _ η (.fz (.tup [.str s, d])) x3 ((S1.trans S2).trans S3) ⟨p, _, rfl, .inl (.inl upd_same), (pairs_ok rr).mono S3.le⟩ qd
    let ED : Nat → D → Prop := fun n what => hQ hs n fun nm => Qd (.fz (.tup [.str nm, what])) η
    have he : HE X.K ⟨b.T, H1, Φ, [], b.CL, hErr X.K hl Q, ED⟩ := fun n C what a v Φ' H' hn X' h1 h2 h3 => by
      refine (match_of CO hn hh h3).mono fun nm qd => ?_
      obtain ⟨xf, nw⟩ := CO.xf n C hn
      exact ⟨C, a, v, rfl, xf, nw, rfl, h1, pair X' h2 qd⟩
    refine ⟨Φ, ED, he, Φ, hideE η, _, x1.hidden he, q, fun v H' Φ' η' r x' S' rv q' => ?_⟩
    obtain ⟨d, Φ2, η2, x2, S2, rr, qd⟩ := frz_ok (x1.hidden he) x' S' rv q'
    exact pair x2.toExt rr qd
end
end DL

set_option Elab.async false
set_option linter.all false
set_option maxRecDepth 100000
set_option maxHeartbeats 2000000
namespace DL
open PySem PySem.Spec PyProof.Rows L2 LamX
theorem u65 {k : Nat} {A : Around} (hr : Room k A) : A.units + 65 < cLine := by have := hr.un; omega
section
variable {X : Cx} {b : Bs} {a c e : Expr} {t u : DTE} {p pos : Pos}
def mmQ (f : Int → Int → Int) (d e : D) (Q : Rv → Prop) : Prop := match d, e with
  | .int i, .int j => Q (.fz (.int (f i j)))
  | _, _ => False
def dMm (f : Int → Int → Int) (t u : DTE) : DTE := fun η Q => t η fun r1 η1 => u η1 fun r2 η2 => rdQ r1 η2 fun d1 => rdQ r2 η2 fun d2 => mmQ f d1 d2 fun r => Q r η2
theorem de_mm {id : String} {x : Str} {f : Int → Int → Int} (hc : CallR X (.builtin id) (fun xs H Q => ∃ i j, xs = [.int i, .int j] ∧ Q (.int (f i j)) H)) (hg : Gl X x) (hm : X.mg x = none) (hv : bootBuiltins x = some (.builtin id)) (ha : DE X b a t) (hb : DE X b c u)
    (hn : x ≠ "__name__" := by decide) (hdb : (x == ("__debug__" : Str)) = false := by decide) (hs : starEach [a, c] X.env = (false, eval a X.env) :: starEach [c] X.env := by rfl) (hs2 : starEach [c] X.env = (false, eval c X.env) :: starEach [] X.env := by rfl)
    (hpl : (backTo pos (starEach [c] X.env)).any (·.1) = false := by rfl) : DE X b (.Call (.Name x p) [a, c] [] pos) (dMm f t u) := by
  refine ⟨pe_imp (pe_callB hc hg hm hv (L2.pa_cons ha.pe (L2.pa_cons hb.pe L2.pa_nil hs2) hs) hn hdb hs hpl) fun σ H Q h => ?_⟩
  obtain ⟨Φ, η, Qd, x, q, k⟩ := h
  refine ⟨Φ, η, _, x, q, fun v1 H1 Φ1 η1 r1 x1 S1 rv1 q1 => ?_⟩
  refine ⟨Φ1, η1, _, x1, q1, fun v2 H2 Φ2 η2 r2 x2 S2 rv2 q2 => ?_⟩
  obtain ⟨d1, rd1, q3⟩ := rd_ok x2 (S2.rv rv1) q2
  obtain ⟨d2, rd2, q4⟩ := rd_ok x2 rv2 q3
  unfold mmQ at q4
  split at q4
  · obtain rfl := rd1.int
    obtain rfl := rd2.int
    exact ⟨_, _, rfl, k _ H2 Φ2 η2 (.fz (.int _)) x2 (S1.trans S2) rfl q4⟩
  · exact q4.elim
abbrev maxI (i j : Int) : Int := if j > i then j else i
abbrev minI (i j : Int) : Int := if j < i then j else i

def dPar (i j : Nat) (ta : DTA) : DTS := fun D η => (notBor (slot η i) = true ∧ notBor (slot η j) = true) ∧ ta η fun as η1 => match as with
  | [.d d, .d e] => D.nx ((η1.set i (.fz d)).set j (.fz e))
  | _ => False
theorem ds_par {i j : Nat} {x y : Str} {ta : DTA} {px py pt : Pos} {kt k2 : Nat} {pt2 : Pos} (hc : X.calm = true) (hN : X.N.Nodup) (ha : DA X b [a, c] ta) (hi : X.N[i]? = some x := by rfl) (hj : X.N[j]? = some y := by rfl) (hij : i ≠ j := by decide)
    (hx : X.env.scope.names.lookup x = some .local := by rfl) (hy : X.env.scope.names.lookup y = some .local := by rfl)
    (hw : swappedStores [.Tuple [.Name x px, .Name y py] kt pt] (.Tuple [a, c] k2 pt2) X.env = pure (some [x, y]) := by rfl)
    (hs : swapsWithSole [.Tuple [.Name x px, .Name y py] kt pt] (.Tuple [a, c] k2 pt2) pos.line X.env = pure false := by rfl) :
    DS X b (.Assign [.Tuple [.Name x px, .Name y py] kt pt] (.Tuple [a, c] k2 pt2) pos) (dPar i j ta) := ⟨ps_imp (ps_par hc hN hi hj hij hx hy ha.pa hw hs) fun D σ H h => by
  obtain ⟨Φ, η, Dd, x, ⟨nb, q⟩, k, _⟩ := h
  refine ⟨Φ, η, _, x, q, fun vs H1 Φ1 η1 as x1 S1 rs q1 => ?_⟩
  have nb1 : ∀ m, notBor (slot η m) = true → ∀ o, slot η1 m ≠ .bor o := fun m hm o z => by
    obtain ⟨a', h'⟩ := x1.bor2 m o z
    obtain ⟨⟨o', w⟩, _⟩ := x.bor1 m a' h'
    exact nb_of hm o' w
  split at q1
  · obtain ⟨v, r, rfl, r1, w, r', rfl, r2, e⟩ := rs
    rw [show r' = [] from e]
    have x2 := x1.assign (i := i) (v := v) (s := .fz _) (nb1 i nb.1) ⟨v, rfl, r1⟩ (fun o z => by cases z) (fun o z => by cases z)
    have x3 := x2.assign (i := j) (v := w) (s := .fz _) (fun o => by rw [slot_set_ne (Ne.symm hij)]; exact nb1 j nb.2 o) ⟨w, rfl, r2⟩ (fun o z => by cases z) (fun o z => by cases z)
    exact ⟨v, w, rfl, k _ H1 Φ1 _ x3 S1.le q1⟩
  · exact q1.elim⟩

structure FunL (K : PySem.W.Frag) (x qual : Str) (st : Stmt) (f : Addr) where
  oc : Value
  od : Option Addr
  kV : Value
  doc : Value
  pm : Value
  an : Option Addr
  cd : Value
  ct : Value
  osl : Array (Option Value)
  lk : K.lookup f = some ⟨oc, od, .func (PySem.W.fnOf x qual (defArgs st) (defBody st) (defScope st) .none kV doc pm an cd ct), osl⟩
  cc : PySem.W.codeIn K cd qual = true
  kp : PySem.W.keepIn K (.ref f) = true
abbrev FunL.fd {K : PySem.W.Frag} {x qual : Str} {st : Stmt} {f : Addr} (F : FunL K x qual st f) : FuncData := PySem.W.fnOf x qual (defArgs st) (defBody st) (defScope st) .none F.kV F.doc F.pm F.an F.cd F.ct
theorem FunL.fn {K : PySem.W.Frag} {x qual : Str} {st : Stmt} {f : Addr} (F : FunL K x qual st f) : Fun K x qual st f F.fd := ⟨⟨F.oc, F.od, F.kV, F.doc, F.pm, F.an, F.cd, F.ct, F.osl, rfl, F.lk, F.cc⟩, F.kp⟩
end
section
variable {P : Program} {w : World} {K : PySem.W.Frag} {mg : Str → Option Value} {base : Heap} {T : List (Addr × Str)} {CL : Nat → Option Addr}
/-- the context of a def's body -/
abbrev cxD (P : Program) (w : World) (K : PySem.W.Frag) (mg : Str → Option Value) (base : Heap) (N : List Str) (qual : Str) (st : Stmt) (f : Addr) (cdv : Value) (A : Around) (outer : List Env) (s : Shared) (H : Hp) (E : XK) : Cx := cxOf (L2.CX P w) P w K mg base N qual (defScope st) f cdv A outer s H E
/-- a def keeps its promise, by its body's reading; its code object is told -/
theorem fn_okL {x qual : Str} {st : Stmt} {f : Addr} {N ps : List Str} {k m : Nat} {sp : DSp} {td : (Nat → D → Prop) → DTS} (F : FunL K x qual st f) (S : FnScope N ps (defScope st)) (hm : N.length = ps.length + m)
    (hl : ∀ args QD ED, sp args QD ED → args.length = ps.length) (hsp : ∀ args QD ED, sp args QD ED → bodyQ args m (td ED) QD)
    (body : ∀ (A : Around) (outer : List Env) (s : Shared) (H : Hp) (E : XK) (Hb Φ : Hp) (ads : List (Option Addr)) (ED : Nat → D → Prop), Room k (A.deeper (envOfC qual (defScope st) s.heap.objs.size f F.cd)) →
      Takes (cxD P w K mg base N qual st f F.cd A outer s H E) (fun cls d _ H => E cls d H) → DSs (cxD P w K mg base N qual st f F.cd A outer s H E) ⟨T, Hb, Φ, ads, CL, E, ED⟩ (defBody st) (td ED)) : FnOk P w K mg base (L2.CX P w) (k + 1) f F.fd ps (spD K T CL sp) := by
  refine fn_of F.lk F.cc S (fun vs H Q E h => ?_) fun A outer s H vs Q E hr h => ?_
  · obtain ⟨Φ, ads, args, QD, ED, _, _, _, A, _, q, _⟩ := h
    rw [← A.len]; exact hl _ _ _ q
  · obtain ⟨Φ, ads, args, QD, ED, held, nt, tabs, A', dis, q, he, kk⟩ := h
    have al : args.length = ps.length := hl _ _ _ q
    have e : m = N.length - vs.length := by rw [← A'.len, al, hm]; omega
    have x := entry e held nt tabs A' dis he
    exact ⟨_, (body A outer s H E H Φ ads ED hr (takes_of rfl rfl rfl rfl)).pss, body_can x A' (hsp _ _ _ q) kk⟩
end
end DL

set_option Elab.async false
set_option linter.all false
set_option maxRecDepth 100000
set_option maxHeartbeats 2000000
namespace DL
open PySem PySem.Spec PyProof.Rows L2 LamX
theorem kb_mkK {K : PySem.W.Frag} {fd : FuncData} {ps ks : List Str} {f : Addr} {x : Str} {n m : Nat} {ix : List Nat} {q : Str} {st : Stmt} (F : Fun K x q st f fd) (h0 : ps ≠ []) (h : ∀ (kV doc pm : Value) (an : Option Addr) (cdv ct : Value) (us ws : List Value), us.length = n → ws.length = m →
    bindArgs (PySem.W.fnOf x q (defArgs st) (defBody st) (defScope st) .none kV doc pm an cdv ct) ⟨us, ks.zip ws⟩ = pure (ps.zip (pick ix (us ++ ws)))) : KBinds K fd ps ks (kg n m ix) (kg n m ix) := by
  refine ⟨fun s us ws _ hl => ?_, fun {vs us zs ws} r1 r2 => ?_⟩
  · unfold kg at hl ⊢
    by_cases c : us.length = n ∧ ws.length = m
    · rw [if_pos c] at hl ⊢
      obtain ⟨oc, od, kV, doc, pm, an, cdv, ct, osl, rfl, lk, hcd⟩ := F.ex
      exact .of_eq (h kV doc pm an cdv ct us ws c.1 c.2)
    · rw [if_neg c] at hl
      exact absurd (List.eq_nil_of_length_eq_zero hl.symm) h0
  · unfold kg
    by_cases c : us.length = n ∧ ws.length = m
    · rw [if_pos c, if_pos (by rw [r1.length, r2.length]; exact c)]
      exact vals_pick (r1.append r2) ix
    · rw [if_neg c, if_neg (by rw [r1.length, r2.length]; exact c)]
      exact .nil
theorem meets_enum1 {v : Value} {o : Obj} {H : Heap → Prop} (B : Begins v o H) :
    Meets (Builtin.«enumerate.__new__» ⟨[.type "enumerate", v], []⟩) (fun _ R s => H s.heap ∧
      R (.ok (.ret (.ref (s.heap.push o).objs.size))) { s with heap := (s.heap.push o).push { cls := .type "enumerate", data := .fields #[.none, .bool false, .ref s.heap.objs.size, rawInt 0, .none, .none] } }) :=
  .of_wp fun prog w A R s h => by
    obtain ⟨hp, g, d, tk, os⟩ := s; obtain ⟨h1, h⟩ := h
    have hsub := sub_enumerate
    have q1 : ∀ {A' : Around} {E : Value → Shared → Prop} {Q : Value → Shared → Prop}, Q (.ref hp.objs.size) ⟨hp.push o, g, d, tk, os⟩ → wpAny (model prog w) A' (pyIter v) Q E ⟨hp, g, d, tk, os⟩ :=
      fun q => B.iter prog w _ _ ⟨hp, g, d, tk, os⟩ _ h1 q
    wp_walk using q1
    refine wpAny_stack_any fun st => wpAny_pure ?_
    split
    · rename_i c _ _ _ _ _
      cases (c == Value.type "enumerate")
      · wp_walk using q1
        exact ⟨_, rfl, h⟩
      · wp_walk using q1
        exact ⟨_, rfl, h⟩
    · wp_walk using q1
      exact ⟨_, rfl, h⟩
theorem call_enum1 {prog : Program} {w : World} {A : Around} {E : Value → Shared → Prop} {s : Shared} {v : Value} {o : Obj} {H : Heap → Prop} {Q : Value → Shared → Prop} (B : Begins v o H) (h1 : H s.heap)
    (h : ∀ h', IsEnum h' (s.heap.objs.size + 1) s.heap.objs.size 0 .none → h'.get? s.heap.objs.size = some o → h'.objs.size = s.heap.objs.size + 2 →
      (∀ b o, s.heap.get? b = some o → h'.get? b = some o) → Q (.ref (s.heap.objs.size + 1)) { s with heap := h' }) :
    wpAny (model prog w) A (call (.type "enumerate") [v]) Q E s := by
  refine callType_new F.called_enumerate (by decide) (F.typeCall_enumerate_1 _) (F.newCall_enumerate_1 _) (fun obj => F.args_object_init_2 obj _) F.entry_enumerate_new
    (meets_enum1 B) ⟨h1, ?_⟩
  have hz : (s.heap.push o).objs.size = s.heap.objs.size + 1 := Heap.size_push ..
  show _ ∧ _
  rw [hz]
  have he : IsEnum ((s.heap.push o).push { cls := .type "enumerate", data := .fields #[.none, .bool false, .ref s.heap.objs.size, rawInt 0, .none, .none] }) (s.heap.objs.size + 1) s.heap.objs.size 0 .none := by
    have := Heap.get?_push_size (s.heap.push o) (o := { cls := .type "enumerate", data := .fields #[.none, .bool false, .ref s.heap.objs.size, rawInt 0, .none, .none] }) rfl
    rw [hz] at this; exact this
  refine ⟨⟨_, he, rfl⟩, h _ he (Heap.get?_push_of_some _ (Heap.get?_push_size _ B.free)) (by rw [Heap.size_push, hz]) fun b o x => Heap.get?_push_of_some _ (Heap.get?_push_of_some _ x)⟩
theorem drawsEnd {prog : Program} {w : World} {A : Around} (hh : A.handled = none) (it t : Addr) (items : Array Value) (i : Nat) (hn : items.size ≤ i) :
    Draws prog w A it [it, t] i (fun i v => items[i]? = some v) (fun j h => j = i ∧ h.IsTupleIter it t i ∧ h.IsTuple t items) where
  live := fun _ _ st => let ⟨o, ho, _⟩ := st.2.1; ⟨o, ho⟩
  frame := fun _ _ _ st hk => ⟨st.1, st.2.1.at fun o e => hk it (by simp) o e, st.2.2.at fun o e => hk t (by simp) o e⟩
  item := fun j s Q E hi st hQ => absurd st.1 (Nat.ne_of_lt hi)
  done := fun s Q E st hE => wpAny_nextOf_tuple_end hh st.2.1 st.2.2 (by simp [hn]) hE
def IteT (K : PySem.W.Frag) (a : Addr) : It :=
  ⟨fun i H => ∃ (xs : List V) (x : V), SqT K H a xs ∧ xs[i]? = some x, fun i H v H' => ∃ T x, v = .ref T ∧ H T = none ∧ H' = upd H T (.tup [.int (i : Nat), x]) ∧ ∀ xs, SqT K H a xs → xs[i]? = some x, fun i H => ∃ xs : List V, SqT K H a xs ∧ xs.length ≤ i⟩
theorem turn_enumT {P : Program} {w : World} {K : PySem.W.Frag} {elts : List Expr} {kk : Nat} {tpos : Pos} (a e it : Addr) :
    Turn P w K (.Tuple elts kk tpos) (IteT K a) [e, it] e (fun i h => (∃ old, IsEnum h e it ((i : Nat) : Int) old) ∧ h.IsTupleIter it a i ∧ e ≠ it) where
  mem := by simp
  obj := fun i h st b hb => by
    obtain ⟨⟨old, he⟩, ⟨o, ho, hc, hd⟩, _⟩ := st
    have e' : b = e ∨ b = it := by simpa using hb
    rcases e' with z | z
    · rw [z]; exact ⟨_, he, fun v q => nomatch q⟩
    · rw [z]; exact ⟨o, ho, fun v q => by rw [hd] at q; cases q⟩
  keep := fun i h h' st k => let ⟨⟨old, he⟩, hi, hne⟩ := st; ⟨⟨old, k e (by simp) _ he⟩, hi.at fun o q => k it (by simp) o q, hne⟩
  item := by
    intro X hP hw hK hc i pins s σ H E I hf st hg
    subst hP hw hK
    obtain ⟨⟨old, he⟩, hit, hne⟩ := st
    obtain ⟨xs, x, hq, hx⟩ := hg
    obtain ⟨its, rv, p, hz⟩ := I.tuple hq
    obtain ⟨u, hu, ru⟩ := rv.get hx
    have pt : s.heap.IsTuple a its.toArray := p
    have hel : e < s.heap.objs.size := Heap.lt_size he
    have hil : it < s.heap.objs.size := by obtain ⟨_, q, _⟩ := hit; exact Heap.lt_size q
    have hai : a ≠ it := fun z => by
      obtain ⟨o1, q1, c1, d1⟩ := hit
      obtain ⟨o2, q2, c2, d2⟩ := pt
      rw [z, q1] at q2
      cases q2
      rw [c1] at c2; injection c2 with c3; exact absurd c3 (by decide)
    have hae : e ≠ a := fun z => by
      obtain ⟨o2, q2, c2, d2⟩ := pt
      rw [← z, he] at q2
      cases q2
      injection c2 with c3; exact absurd c3 (by decide)
    have lt : i < its.toArray.size := by
      have := (List.getElem?_eq_some_iff.mp hu).1
      simpa using this
    refine wpAny_pyNext_enum_itemD (Draws.tuple (A := X.A.in1) (show X.A.in1.handled = none from I.ok.hd hc) it a hai its.toArray) he ⟨hit, pt⟩ lt hne (by simp [hne, hae]) fun x' h' tk hP' ho st' hT hsz hk => ?_
    have ex : x' = u := by
      have : its.toArray[i]? = some u := by simpa using hu
      rw [this] at hP'
      exact (Option.some.inj hP').symm
    subst ex
    refine ⟨_, rfl, wpAny_letOwnedTupleGo_enum (s := { s with heap := h', toks := tk + 1 }) ho fun h'' he' sb => ?_⟩
    have hT2 : h''.get? s.heap.objs.size = some { cls := .type "tuple", data := .seq #[.int i tk, x'] } := (sb.2 _ (Nat.ne_of_gt hel)).trans hT
    have new : ObjOk X.prog X.w (upd H s.heap.objs.size (.tup [.int (i : Nat), x])) h'' s.heap.objs.size (.tup [.int (i : Nat), x]) :=
      ⟨by show 2 ≤ sizeLine; decide, [.int i tk, x'], .cons ⟨_, rfl⟩ (.cons ru .nil), ⟨_, hT2, rfl, _, rfl⟩⟩
    have I1 : Inv X pins σ (upd H s.heap.objs.size (.tup [.int (i : Nat), x])) { s with heap := h'', toks := tk + 1 } :=
      I.turnedNew (ch := [e, it]) (fun b ob hb q => (sb.2 b (fun z => hb (by simp [z]))).trans (hk b ob (fun z => hb (by simp [z])) (fun z => hb (by simp [z])) q)) hf (Nat.le_refl _) new
    refine ⟨.ref s.heap.objs.size, _, I1, rfl, ⟨_, x, rfl, I.hok.fresh (Nat.le_refl _), rfl, fun ys hy => by rw [I.tuple_inj hy hq]; exact hx⟩, ⟨⟨x', ?_⟩, st'.1.at fun o q => (sb.2 it (Ne.symm hne)).trans q, hne⟩, fun b hb => ?_⟩
    · have e1 : ((i + 1 : Nat) : Int) = (i : Int) + 1 := by omega
      rw [e1]; exact he'
    · have hb' : b < s.heap.objs.size := by
        have e' : b = e ∨ b = it := by simpa using hb
        rcases e' with z | z
        · rw [z]; exact hel
        · rw [z]; exact hil
      rw [upd_ne (Nat.ne_of_lt hb')]
      exact (hf b hb).1
  done := by
    intro X hP hw hK hc i pins s σ H E I hf st hg
    subst hP hw hK
    obtain ⟨⟨old, he⟩, hit, hne⟩ := st
    obtain ⟨xs, hq, hx⟩ := hg
    obtain ⟨its, rv, p, hz⟩ := I.tuple hq
    have pt : s.heap.IsTuple a its.toArray := p
    have hai : a ≠ it := fun z => by
      obtain ⟨o1, q1, c1, d1⟩ := hit
      obtain ⟨o2, q2, c2, d2⟩ := pt
      rw [z, q1] at q2
      cases q2
      rw [c1] at c2; injection c2 with c3; exact absurd c3 (by decide)
    obtain ⟨f0, f1, f2, f3, f4, f5⟩ := hf it (by simp)
    have hl := rv.length
    have hn : its.toArray.size ≤ i := by simp; omega
    exact wpAny_pyNext_enum_endD (drawsEnd (A := X.A.in1) (show X.A.in1.handled = none from I.ok.hd hc) it a its.toArray i hn) he ⟨rfl, hit, pt⟩ fun h' eb => ⟨rfl, I.turned (t' := s.toks) (fun b o hb q => eb b o hb q) f0 f1 f3 f4 f5⟩
  self := fun A i s Q E st h => let ⟨⟨_, he⟩, _⟩ := st; wpAny_pyIter_enum he h
/-- enumerate of a list or a tuple -/
theorem pi_enumS {X : Cx} {e : Expr} {ta : TE} {p pos tpos : Pos} {elts : List Expr} {kk : Nat} (hg : Gl X "enumerate") (hm : X.mg "enumerate" = none) (ha : PE X e ta) (hs : starEach [e] X.env = (false, eval e X.env) :: starEach [] X.env := by rfl) :
    PI X (.Tuple elts kk tpos) (.Call (.Name "enumerate" p) [e] [] pos) (fun σ H R => ta σ H fun x H1 => (∃ a, x = .ref a ∧ (∃ xs, SqL X.K H1 a xs) ∧ R (Ite X.K a) H1) ∨ ∃ a, x = .ref a ∧ (∃ xs, SqT X.K H1 a xs) ∧ R (IteT X.K a) H1) := by
  refine ⟨fun pins s σ H R I h => ?_⟩
  refine Call_ (ld_blt I hg hm boot_enumerate (PyProof.Rows.callWith_type1 (one_arg ha I h (fun v s1 x H1 I1 r q1 => ?_) hs) hs rfl))
  have fp : ∀ {h' : Heap}, Inv X pins σ H1 { s1 with heap := h' } → ∀ b ∈ [s1.heap.objs.size + 1, s1.heap.objs.size], FpOk X pins H1 b := fun _ b hb => by
    have e' : b = s1.heap.objs.size + 1 ∨ b = s1.heap.objs.size := by simpa using hb
    have hle : s1.heap.objs.size ≤ b := by
      rcases e' with z | z
      · rw [z]; exact Nat.le_add_right _ _
      · rw [z]; exact Nat.le_refl _
    exact I1.fpOk hle (I1.hok.fresh hle)
  rcases q1 with ⟨a, rfl, ⟨xs, hq⟩, q⟩ | ⟨a, rfl, ⟨xs, hq⟩, q⟩
  · cases r
    obtain ⟨its, rv, p', hz⟩ := I1.list hq
    refine call_enumerate_list p'.isList fun h' he hit hsz hk => wpAny_pyIter_enum he ?_
    have I2 : Inv X pins σ H1 { s1 with heap := h' } := I1.kept (t' := s1.toks) hk
    exact ⟨s1.heap.objs.size + 1, [s1.heap.objs.size + 1, s1.heap.objs.size], _, _, H1, rfl, I2, turn_enum a (s1.heap.objs.size + 1) s1.heap.objs.size, ⟨⟨.none, he⟩, hit, Nat.succ_ne_self _⟩, fp I2, q⟩
  · cases r
    obtain ⟨its, rv, p', hz⟩ := I1.tuple hq
    have pt : s1.heap.IsTuple a its.toArray := p'
    refine call_enum1 (begins_tuple a its.toArray) pt fun h' he hit hsz hk => wpAny_pyIter_enum he ?_
    have I2 : Inv X pins σ H1 { s1 with heap := h' } := I1.kept (t' := s1.toks) hk
    exact ⟨s1.heap.objs.size + 1, [s1.heap.objs.size + 1, s1.heap.objs.size], _, _, H1, rfl, I2, turn_enumT a (s1.heap.objs.size + 1) s1.heap.objs.size, ⟨⟨.none, he⟩, ⟨_, hit, rfl, rfl⟩, Nat.succ_ne_self _⟩, fp I2, q⟩
def enmD : Nat → List D → List D
  | _, [] => []
  | i, d :: ds => .tup [.int (i : Nat), d] :: enmD (i + 1) ds
theorem enmD_len : ∀ (k : Nat) (ds : List D), (enmD k ds).length = ds.length
  | _, [] => rfl
  | k, d :: ds => by show (enmD (k + 1) ds).length + 1 = _; rw [enmD_len]; rfl
theorem enmD_get : ∀ (ds : List D) (k i : Nat) (e : D), (enmD k ds)[i]? = some e → ∃ d, ds[i]? = some d ∧ e = .tup [.int ((k + i : Nat) : Int), d]
  | [], k, i, e, h => by simp [enmD] at h
  | d :: ds, k, 0, e, h => by
    have h : some (D.tup [.int (k : Nat), d]) = some e := h
    exact ⟨d, rfl, (Option.some.inj h).symm⟩
  | d :: ds, k, i + 1, e, h => by
    have h : (enmD (k + 1) ds)[i]? = some e := h
    obtain ⟨d', h1, h2⟩ := enmD_get ds (k + 1) i e h
    exact ⟨d', h1, by rw [h2, show k + 1 + i = k + (i + 1) by omega]⟩
section
variable {K : PySem.W.Frag} {Φ : Hp} {a : Addr} {ds : List D} {vs : List V}
theorem wk_enum {J : It} (rs : Rs K Φ ds vs) (hg : ∀ i H v, Same Φ H → vs[i]? = some v → J.go i H ∧ ∀ x H', J.yld i H x H' → ∃ T, x = .ref T ∧ H T = none ∧ H' = upd H T (.tup [.int (i : Nat), v])) (hs : ∀ i H, Same Φ H → vs.length ≤ i → J.stop i H) : Wk K Φ J (enmD 0 ds) := by
  refine fun i H hH => ⟨fun e he => ?_, fun hi => hs i H hH (by rw [← rs.length]; rw [enmD_len] at hi; exact hi)⟩
  obtain ⟨d, hd, rfl⟩ := enmD_get ds 0 i e he
  obtain ⟨v, hv, rr⟩ := rs.get hd
  obtain ⟨h1, h2⟩ := hg i H v hH hv
  refine ⟨h1, fun x H' y => .inr ?_⟩
  obtain ⟨T, e1, e2, e3⟩ := h2 x H' y
  exact ⟨T, _, _, e2, e3, e1, rfl, .int (i : Nat), [v], rfl, by rw [Nat.zero_add]; rfl, v, [], rfl, rr, rfl⟩
theorem wk_enumL (h : SqL K Φ a vs) (rs : Rs K Φ ds vs) : Wk K Φ (Ite K a) (enmD 0 ds) :=
  wk_enum rs (fun i H v hH hv => ⟨⟨vs, v, hH.seq h, hv⟩, fun x H' ⟨T, u, e1, e2, e3, e4⟩ => ⟨T, e1, e2, by rw [e3, Option.some.inj ((e4 vs (hH.seq h)).symm.trans hv)]⟩⟩) fun i H hH hi => ⟨vs, hH.seq h, hi⟩
theorem wk_enumT (h : SqT K Φ a vs) (rs : Rs K Φ ds vs) : Wk K Φ (IteT K a) (enmD 0 ds) :=
  wk_enum rs (fun i H v hH hv => ⟨⟨vs, v, sqT_mono hH h, hv⟩, fun x H' ⟨T, u, e1, e2, e3, e4⟩ => ⟨T, e1, e2, by rw [e3, Option.some.inj ((e4 vs (sqT_mono hH h)).symm.trans hv)]⟩⟩) fun i H hH hi => ⟨vs, sqT_mono hH h, hi⟩
end
def iEnm (t : DTE) : DTI := fun η Q => t η fun r η1 => frzQ r η1 fun d η2 => seqQ d fun ds => Q (enmD 0 ds) η2
theorem di_enum {X : Cx} {b : Bs} {e : Expr} {t : DTE} {p pos tpos : Pos} {elts : List Expr} {kk : Nat} (hg : Gl X "enumerate") (hm : X.mg "enumerate" = none) (he : DE X b e t) (hs : starEach [e] X.env = (false, eval e X.env) :: starEach [] X.env := by rfl) :
    DI X b (.Tuple elts kk tpos) (.Call (.Name "enumerate" p) [e] [] pos) (iEnm t) := by
  refine ⟨⟨fun pins s σ H R I h => (pi_enumS hg hm he.pe hs).run pins s σ H R I ?_⟩⟩
  obtain ⟨Φ, η, Qd, x, q, k⟩ := h
  refine ⟨Φ, η, _, x, q, fun v H1 Φ1 η1 r x1 S1 rv q1 => ?_⟩
  obtain ⟨d, Φ2, η2, x2, S2, rr, q2⟩ := frz_ok x x1 S1 rv q1
  unfold seqQ at q2
  split at q2
  · obtain ⟨a, vs, rfl, hq, rs⟩ := rr
    exact .inr ⟨a, rfl, ⟨vs, sqT_mono x2.held hq⟩, k _ H1 Φ2 η2 _ x2 S2 (wk_enumT hq rs) q2⟩
  · obtain ⟨a, vs, rfl, hq, rs⟩ := rr
    have hq' : SqL X.K Φ2 a vs := .inl (.inl hq)
    exact .inl ⟨a, rfl, ⟨vs, x2.held.seq hq'⟩, k _ H1 Φ2 η2 _ x2 S2 (wk_enumL hq' rs) q2⟩
  · obtain ⟨a, vs, rfl, hq, rs⟩ := rr
    exact .inl ⟨a, rfl, ⟨vs, x2.held.seq hq⟩, k _ H1 Φ2 η2 _ x2 S2 (wk_enumL hq rs) q2⟩
  · exact q2.elim
end DL

set_option Elab.async false
set_option linter.all false
set_option maxRecDepth 100000
set_option maxHeartbeats 2000000
namespace DL
open PySem PySem.Spec PyProof.Rows L2 LamX NdefX
/-- ValueError.__init__ bound to the exception that is being made -/
theorem bound_init {X : Cx} {pins : List (Addr × Obj)} {σ : L2.St} {H : Hp} {s : Shared} {a C u : Addr} {A : Around} {E : Value → Shared → Prop} {us : List Value} {Q : Value → Shared → Prop} (T : OexC X.K C) (I : Inv X pins σ H s) (e : H a = some (exo a C none))
    (hu : s.heap.get? u = some (PySem.W.kxs_mw "ValueError.__init__" a)) (hl : us.length ≤ sizeLine) (h : ∀ s', Inv X pins σ H s' → Q .none s') : wpAny (model X.prog X.w) A (call (.ref u) us) Q E s := by
  obtain ⟨nm, q, N, bs, bm, sn, sub, ab, col, dd, k0, k1, k2, k3, k5, hC, hbm⟩ := T.cls
  obtain ⟨t1, ho⟩ := exo_at I.hok e
  have hC2 := I.kIn _ _ hC
  have fin : ∀ h', (∀ b o, b ≠ a → s.heap.get? b = some o → h'.get? b = some o) → h'.get? a = some (PySem.W.excObj C s.heap.objs.size none .none) → h'.get? s.heap.objs.size = some (PySem.W.excTup us) → Q .none { s with heap := h' } := fun h' k hx _ => by
    have J := I.write (t' := s.toks) (x := a) (e := a) (o := exo a C none) (by rw [e]; exact True.intro) (.inl rfl) k ⟨_, hx⟩ (exo_ok hx)
    have eu : upd H a (exo a C none) = H := by
      funext b
      by_cases hb : b = a
      · rw [hb, upd_same, e]
      · rw [upd_ne hb]
    rw [eu] at J
    exact h _ J
  obtain ⟨hh, g, d, tk, os⟩ := s
  refine wpAny_call (codeAny_of_tree ?_)
  show wpAny _ A.in1 (callAny (.ref u) ⟨us, []⟩) _ _ _
  simp only [callAny]
  refine wpAny_bind (wpAny_load hu ?_)
  simp only [PySem.W.kxs_mw, show (Value.type "method-wrapper" == Value.type "method" || Value.type "method-wrapper" == Value.type "builtin_function_or_method" || Value.type "method-wrapper" == Value.type "method-wrapper") = true by decide, if_true]
  refine PySem.W.KFB.if_so (by decide) ?_
  refine wpAny_bind (PySem.W.check_bound_init PySem.F.excBase_ValueError.toExcCallFacts hC2 ho rfl ?_)
  refine wpAny_bind (wpAny_pure (wpAny_pure ?_))
  refine ⟨plainId_quiet PySem.F.excBase_ValueError.init.plain _, codeAny_builtin PySem.F.excBase_ValueError.initEntry ?_⟩
  rw [Around.under_plainId PySem.F.excBase_ValueError.init.plain _]
  exact PySem.W.exc_init_tree (cls := .ref C) (t0 := t1) (dv := none) (c2 := .none) (c3 := .none) (b4 := .bool false) ho hl fin
/-- what the written part says for __init__ of D, at an exception of the class C -/
structure SupC (P : Program) (K : PySem.W.Frag) (C D : Addr) : Prop where
  oex : OexC K C
  mro : PySem.W.mroIn K C (.ref D) = some true
  sup : PySem.W.ks_superIn K C D "__init__" = some (some (.builtin "ValueError.__init__"))
  ve : PySem.W.subIn K (.ref C) (.type "ValueError") = some true
  th : PySem.W.nsIn K cStatics "thirdparty.any" = some none
  what : PySem.W.findIn K (.ref C) "what" = some none
  dcl : ∃ cd, PySem.W.clsIn K D = some cd
  top : (P.main.scope.names.lookup ("super" : Str)).isSome = false
/-- the promise of D.__init__ at a C -/
def initS (C : Addr) : Sp := fun vs H Q _ => ∃ a y, vs = [.ref a, y] ∧ H a = some (exo a C none) ∧ ∀ dx, H dx = none → dx ≠ a → Q .non (upd (upd H dx (exd dx [("what", y)])) a (exo a C (some dx)))
section
variable {P : Program} {w : World} {K : PySem.W.Frag} {mg : Str → Option Value} {base : Heap}
theorem init_ok {k : Nat} {C D f cc cda : Addr} {name qual : Str} {params : Arguments} {body : List Stmt} {scope : Scope} {dV kV doc pm ct oc ccl cl : Value} {an od cdd cld : Option Addr} {osl ccs csl : Array (Option Value)} {vsc : Array Value} {file : Str} {tf : Tok} {ar : Arg}
    {p0 p1 p2 p3 p4 p5 p6 p7 p8 p9 : Pos} (T : SupC P K C D)
    (lk : K.lookup f = some ⟨oc, od, .func (PySem.W.ksFn name qual params body scope dV kV doc pm an (.ref cda) ct cc), osl⟩) (hcd : PySem.W.codeIn K (.ref cda) qual = true)
    (hcell : K.lookup cc = some ⟨cl, cld, .cell (some (.ref D)), csl⟩) (hcode : K.lookup cda = some ⟨ccl, cdd, .fields vsc, ccs⟩) (hvs : vsc[2]? = some (.str file tf)) (hfile : ((P.main.file : Str) == file) = true)
    (S : NScope ["self", "what", "__class__"] ["self", "what"] ["__class__"] scope) (hks : scope.names.lookup ("super" : Str) = some .globalImplicit) (hkc : scope.names.lookup ("__class__" : Str) = some .free)
    (hka : scope.names.lookup ("self" : Str) = some .local) (hkw : scope.names.lookup ("what" : Str) = some .local) (hp : (params.posonlyargs ++ params.args).head? = some ar) (har : ar.arg = "self") (hms : mg "super" = none)
    (hbody : body = [.Expr (.Call (.Attribute (.Call (.Name "super" p0) [] [] p1) "__init__" p2) [.Name "what" p3] [] p4) p5, .Assign [.Attribute (.Name "self" p6) "what" p7] (.Name "what" p8) p9])
    (he : ∀ L : Addr, ∃ pl : Sem Bool, eval (.Call (.Attribute (.Call (.Name "super" p0) [] [] p1) "__init__" p2) [.Name "what" p3] [] p4) (PySem.W.envX qual scope L f (.ref cda) [("__class__", cc)]) = (do
      let ov ← attributeBase (.Call (.Name "super" p0) [] [] p1) "__init__" (PySem.W.envX qual scope L f (.ref cda) [("__class__", cc)]) (eval (.Call (.Name "super" p0) [] [] p1) (PySem.W.envX qual scope L f (.ref cda) [("__class__", cc)]))
      standAt p2.atName
      let (g, first) ← holding [ov] (getMethod ov "__init__" pl)
      callWith p4 g first (backTo p4 (starEach [.Name "what" p3] (PySem.W.envX qual scope L f (.ref cda) [("__class__", cc)]))) []))
    (hsw : ∀ L : Addr, swapsWith (.Call (.Attribute (.Call (.Name "super" p0) [] [] p1) "__init__" p2) [.Name "what" p3] [] p4) none p5.line (PySem.W.envX qual scope L f (.ref cda) [("__class__", cc)]) = pure false)
    (hsw2 : ∀ L : Addr, swapsWith (.Name "what" p8) (some (.Attribute (.Name "self" p6) "what" p7)) p9.line (PySem.W.envX qual scope L f (.ref cda) [("__class__", cc)]) = pure false) :
    FnOk P w K mg base (L2.CX P w) (k + 1) f (PySem.W.ksFn name qual params body scope dV kV doc pm an (.ref cda) ct cc) ["self", "what"] (initS C) := by
  let F : NF := ⟨name, qual, params, body, scope, [("__class__", cc)], cda⟩
  refine ⟨fun vs H Q E h => (by obtain ⟨a, y, rfl, _⟩ := h; rfl), fun A outer s H args us vs Q E hr e0 hb r hsp => ?_⟩
  obtain ⟨a, y, rfl, ha, hq⟩ := hsp
  obtain ⟨u, ru, rfl⟩ : ∃ u, RelV y u ∧ us = [.ref a, u] := by
    cases r with
    | cons r1 r2 =>
      cases r2 with
      | cons r3 r4 =>
        cases r4
        exact ⟨_, r3, by rw [show _ = Value.ref a from r1]⟩
  have KX : K.In s.heap := e0.mod.kin.keeps fun b o e => (e0.bs b o e).1
  have lim : s.heap.NoLimit := e0.mod.nolimit.keeps fun b o e => (e0.bs b o e).1
  have C0 : CellsAt F.cl ["__class__"] [none] s.heap H := by
    have hc := KX _ _ hcell
    have look : ∀ (y : Str) (c : Addr), F.cl.lookup y = some c → y = "__class__" ∧ c = cc := fun y c e => by
      have e2 : (match y == ("__class__" : Str) with | true => some cc | false => none) = some c := e
      cases hy : y == ("__class__" : Str) with
      | true => rw [hy] at e2; exact ⟨by simpa using hy, (Option.some.inj e2).symm⟩
      | false => rw [hy] at e2; cases e2
    refine ⟨rfl, fun y c e => ?_, fun x y c h1 h2 => ?_, fun i y e => ?_⟩
    · obtain ⟨_, rfl⟩ := look y c e
      exact ⟨(e0.bs _ _ (e0.mod.kin _ _ hcell)).2, _, _, hc, rfl⟩
    · rw [(look x c h1).1, (look y c h2).1]
    · cases i with
      | zero =>
        have : y = "__class__" := by simpa using e.symm
        subst this
        exact ⟨cc, by simp [F, List.lookup], fun v z => by simp at z⟩
      | succ i => simp at e
  have hl3 : ∀ x ∈ (["self", "what"] : List Str).zip [Value.ref a, u], scope.names.lookup x.1 = some .local := fun x hx => by
    have hx : x = (("self" : Str), Value.ref a) ∨ x = (("what" : Str), u) := by simpa using hx
    rcases hx with rfl | rfl
    · exact hka
    · exact hkw
  refine ks_codeAny_call_defAt (fd := PySem.W.ksFn name qual params body scope dV kV doc pm an (.ref cda) ct cc) (body := body) (binds := (["self", "what"] : List Str).zip [Value.ref a, u]) hr.depth (KX _ _ lk) rfl lim (PySem.W.codeRec_of KX hcd) rfl hb S.nocell hl3 (fun h₁ hns kp => ?_) S.co S.gen S.kind
  have I : Inv (ncx (L2.CX P w) P w K mg base ["self", "what", "__class__"] F f A outer s H E) [] (startF ["self", "what", "__class__"] [.ref a, y] [none]) H { s with heap := h₁, toks := s.toks + ((["self", "what"] : List Str).zip [Value.ref a, u]).length } := inv_startN S hr.hd e0 rfl r C0 hns kp
  show PySem.wpAt (model P w) (A.deeper (envF F f s.heap.objs.size)) (.func body (envF F f s.heap.objs.size)) (execs body (envF F f s.heap.objs.size)) _ _ _
  rw [hbody]
  generalize htk : s.toks + ((["self", "what"] : List Str).zip [Value.ref a, u]).length = tk at I
  have hkind : scope.kind = .function := S.kind
  have hint : interactive (envF F f s.heap.objs.size) = false := by
    show (scope.kind == .module && _) = false
    rw [hkind]; rfl
  obtain ⟨pl, he⟩ := he s.heap.objs.size
  refine ks_wpAt_execs_cons (ks_wpAt_Expr_any (ks_wpAt_MethodCall (pl := pl) ?_ he) hint (hsw _))
  obtain ⟨cdD, hD⟩ := T.dcl
  have X1 : K.In h₁ := KX.keeps kp
  obtain ⟨oD, hD1, hD2⟩ : ∃ oD, h₁.get? D = some oD ∧ oD.data = .cls cdD := by
    unfold PySem.W.clsIn at hD
    split at hD
    · rename_i c d cd' sl ho
      cases hD
      exact ⟨_, X1 _ _ ho, rfl⟩
    · cases hD
  obtain ⟨t1, hx⟩ := exo_at I.hok ha
  obtain ⟨mb, hb1, hb2⟩ := e0.mod.blt
  have bk : ∀ b o, base.get? b = some o → h₁.get? b = some o := fun b o e => kp b o (e0.bs b o e).1
  refine ks_wpAt_super_base (env := envF F f s.heap.objs.size) hks hkc (by decide) rfl (X1 _ _ lk) rfl hp rfl (X1 _ _ hcode) rfl hvs hfile T.top ?_
  refine PySem.W.ks_loadName_global hkind hks (Calls.loadGlobal_builtin (e0.mod.glob.keeps bk) hms (hb1.keeps bk) ((hb2 _ (by decide)).trans (by rfl)) ⟨rfl, ?_⟩)
  refine wpAny_loadName_free hkind hkc rfl ⟨_, X1 _ _ hcell, rfl⟩ ?_
  refine wpAny_loadName_local hkind (by rw [har]; exact hka) hns (v := .ref a) (by rw [har]; rfl) ?_
  refine ks_wpAny_isType_cls hD1 hD2 ⟨rfl, ?_⟩
  refine ks_wpAny_call_super hD1 hD2 hx rfl (fun c e => by cases e) (PySem.W.looks_mroIn X1 T.mro) (fun h2 e2 k2 => ?_)
  let X := ncx (L2.CX P w) P w K mg base ["self", "what", "__class__"] F f A outer s H E
  have J1 : Inv X [] (startF ["self", "what", "__class__"] [.ref a, y] [none]) H { s with heap := h2, toks := tk } := I.kept (t' := tk) k2
  obtain ⟨t2, hx2⟩ := exo_at J1.hok ha
  have X2 : K.In h2 := X1.keeps k2
  have hK := T.sup
  unfold PySem.W.ks_superIn at hK
  cases hc : PySem.W.clsIn K C with
  | none => rw [hc] at hK; cases hK
  | some cdC =>
  rw [hc] at hK
  have II : PySem.W.InstAt h2 a { cls := .ref C, dict := none, data := .fields #[.ref t2, .none, .none, .none, .bool false, .none] } C none := ⟨hx2, rfl, rfl, trivial⟩
  refine PySem.W.kxs_getMethod PySem.W.kxs_ValueError e2 (PySem.W.looks_opaque X2 T.th) (l₀ := cdC.mro) (fun A Q E s k q => wpAny_bind ((PySem.W.looks_clsIn X2 hc) A _ E s k (wpAny_pure q))) rfl X2 hK (II.type.andThen (PySem.W.looks_subIn X2 T.ve)) (PySem.W.ks_ne X2 II hc) (by decide) ?_
  have k3 : ∀ b o, h2.get? b = some o → (h2.push (PySem.W.kxs_mw "ValueError.__init__" a)).get? b = some o := fun b o e => Heap.get?_push_of_some _ e
  have J2 : Inv X [] (startF ["self", "what", "__class__"] [.ref a, y] [none]) H { s with heap := h2.push (PySem.W.kxs_mw "ValueError.__init__" a), toks := tk + 1 } := J1.kept (t' := tk + 1) k3
  have hu : (h2.push (PySem.W.kxs_mw "ValueError.__init__" a)).get? h2.objs.size = some (PySem.W.kxs_mw "ValueError.__init__" a) := Heap.get?_push_size _ rfl
  refine PySem.W.kxs_callWith (i := "ValueError.__init__") (x := a) rfl (Calls.evalArgs_plain ?_)
  have pin : Inv X [(h2.objs.size, PySem.W.kxs_mw "ValueError.__init__" a)] (startF ["self", "what", "__class__"] [.ref a, y] [none]) H { s with heap := h2.push (PySem.W.kxs_mw "ValueError.__init__" a), toks := tk + 1 } := J2.pins_of fun p hp => by
    have hp : p = (h2.objs.size, PySem.W.kxs_mw "ValueError.__init__" a) := by simpa using hp
    subst hp
    obtain ⟨f0, f1, f2, _⟩ := J1.fpOk (Nat.le_refl _) (J1.hok.fresh (Nat.le_refl _))
    exact ⟨hu, f0, f1, f2, fun v z => by cases z⟩
  refine one_arg (X := X) (R := fun v H' => v = y ∧ H' = H) (pe_var (i := 1) rfl (.inl hkw)) pin ⟨y, rfl, rfl, rfl⟩ (fun v s2 x H2 I2 rv ⟨e3, e4⟩ => ?_) rfl
  subst e3 e4
  have hu2 : s2.heap.get? h2.objs.size = some (PySem.W.kxs_mw "ValueError.__init__" a) := (I2.pin (h2.objs.size, PySem.W.kxs_mw "ValueError.__init__" a) (List.mem_append_right _ List.mem_cons_self)).1
  refine ⟨hu2, ?_⟩
  refine bound_init T.oex I2 ha hu2 (by simp [sizeLine_eq]) fun s3 I3 => ?_
  show PySem.wpAt _ _ _ (execs _ _) _ _ s3
  refine wpAt_of_wpAny ?_
  have I4 : L2.Inv X [] (startF ["self", "what", "__class__"] [.ref a, x] [none]) H2 s3 := I3.pins_of fun p hp => absurd hp (by simp)
  refine wpAny_mono ((pss_one (ps_ost (X := X) (f := "what") (pe_var (i := 0) rfl (.inl hka)) (pe_var (i := 1) rfl (.inl hkw)) (hsw2 _))).run [] s3 _ H2 { nx := fun _ H' => Q .non H', rt := Q } I4 ?_) (fun fl s' hs => ?_) fun e s' hs => hs
  · refine ⟨x, rfl, .ref a, rfl, a, C, rfl, T.oex, T.what, .inl ⟨ha, fun dx n ne => hq dx n ne⟩⟩
  have fin : ∀ {σ' : L2.St} {H' : Hp} {v : V} {u : Value}, Inv X [] σ' H' s' → L2.RelV v u → Q v H' → CE outer P w H2 s Q u s' :=
    fun {σ' H' v u} J rv q => ⟨v, H', J.os, J.bare, J.base, J.hok, rv, q⟩
  cases fl with
  | ret u =>
    obtain ⟨v, σ', H', J, rv, q⟩ := hs
    exact fin J rv q
  | next =>
    obtain ⟨σ', H', J, q⟩ := hs
    exact fin (v := V.non) (u := Value.none) J rfl q
  | brk =>
    obtain ⟨_, _, _, q⟩ := hs
    exact False.elim q
  | cont =>
    obtain ⟨_, _, _, q⟩ := hs
    exact False.elim q
end
structure RzC (P : Program) (w : World) (K : PySem.W.Frag) (mg : Str → Option Value) (base : Heap) (CL : Nat → Option Addr) (n : Nat) (x : Str) (k : Nat) (C fI : Addr) (fd : FuncData) : Prop where
  T : OexC K C
  iC : PySem.W.findIn K (.ref C) "__init__" = some (some (.ref fI))
  tI : PySem.W.typeIn K (.ref fI) = some (.type "function")
  ok : FnOk P w K mg base (L2.CX P w) k fI fd ["self", "what"] (initS C)
  hb : L2.Binds K fd ["self", "what"] []
  hm : mg x = some (.ref C)
  hn : CL n = some C
def dRaise (n : Nat) (ED : Nat → D → Prop) (ta : DTA) : DTS := fun _ η => ta η fun as _ => match as with
  | [.d d] => ED n d
  | _ => False
section
variable {X : Cx} {b : Bs} {e : Expr} {es : List Expr} {ta : DTA} {x : Str} {p pos pos' : Pos} {n k : Nat} {C fI : Addr} {fd : FuncData}
theorem ds_raise (hc : X.calm = true) (tk : Takes X (fun cls d _ H => b.E cls d H)) (Z : RzC X.prog X.w X.K X.mg X.base b.CL n x k C fI fd) (hr : Room (k + 1) X.A) (hg : Gl X x) (ha : DA X b (e :: es) ta)
    (hdb : (x == ("__debug__" : Str)) = false := by decide) (he : starEach (e :: es) X.env = (false, eval e X.env) :: starEach es X.env := by rfl) (hpl : (backTo pos (starEach es X.env)).any (·.1) = false := by rfl) :
    DS X b (.Raise (some (.Call (.Name x p) (e :: es) [] pos)) none pos') (dRaise n b.ED ta) := ⟨ps_imp (L2.ps_raise hc tk (pmk_oex Z.T Z.iC Z.tI Z.ok hr Z.hb .nil (passL (X := X)) hg Z.hm ha.pa hdb he hpl)) fun D σ H h => by
  obtain ⟨Φ, η, Dd, xx, q, _⟩ := h
  refine ⟨Φ, η, _, xx, q, fun vs H1 Φ1 η1 as x1 S1 rs q1 => ?_⟩
  split at q1
  · obtain ⟨v, r, rfl, rr, e0⟩ := rs
    obtain rfl : r = [] := e0
    refine ⟨by show 1 ≤ 1000; decide, fun a hn => ⟨a, v, rfl, upd_same, fun dx n1 ne => ⟨rfl, dx, [("what", v)], upd_same, ?_, ?_, ?_⟩⟩⟩
    · rw [upd_ne ne, upd_same]
    · rw [upd_ne ne] at n1; exact n1
    · rw [upd_ne ne] at n1
      have eq : upd (del (upd (upd (upd H1 a (exo a C none)) dx (exd dx [("what", v)])) a (exo a C (some dx))) a) dx (.xd [("what", v)]) = upd H1 dx (.xd [(("what" : Str), v)]) := by
        funext c
        by_cases h1 : c = dx
        · rw [h1, upd_same, upd_same]
        · rw [upd_ne h1, upd_ne h1]
          by_cases h2 : c = a
          · rw [h2, del_same, hn]
          · rw [del_ne h2, upd_ne h2, upd_ne h1, upd_ne h2]
      rw [eq]
      obtain ⟨x3, S3⟩ := x1.alloc (u := .xd [(("what" : Str), v)]) n1 (fun ps z => by cases z)
      exact x1.he n C _ dx v _ _ Z.hn x3.toExt upd_same (rr.mono S3.le) q1
  · exact q1.elim⟩
end
def isSt : Expr → Bool
  | .Starred .. => true
  | _ => false
theorem sw_two {env : Env} {x y : Str} {px py pt : Pos} {a c : Expr} {kt k2 : Nat} {pt2 : Pos} (hb : env.blockKind = .function) (hx : env.kindOf x = some .local) (hy : env.kindOf y = some .local) (h2 : py.line = px.line) (hne : ¬ y = x)
    (hsa : isSt a = false) (hsc : isSt c = false) (hf : (foldedForSure 8 a && foldedForSure 8 c) = false) (hk : (constantsAlone 8 a && constantsAlone 8 c) = false) :
    swappedStores [.Tuple [.Name x px, .Name y py] kt pt] (.Tuple [a, c] k2 pt2) env = pure (some [x, y]) := by
  unfold swappedStores
  have e1 : [a, c].all (foldedForSure 8) = false := by simpa using hf
  have e2 : [a, c].all (constantsAlone 8) = false := by simpa using hk
  simp [hb, e1, e2, Expr.pos, hx, hy, h2, List.eraseDups_cons, hne]
  intro h
  rcases h with h | h
  · cases a <;> first | (cases hsa; done) | (cases h; done)
  · cases c <;> first | (cases hsc; done) | (cases h; done)
theorem ds_parS {X : Cx} {b : Bs} {a c : Expr} {pos : Pos} {i j : Nat} {x y : Str} {ta : DTA} {px py pt : Pos} {kt k2 : Nat} {pt2 : Pos} (hc : X.calm = true) (hN : X.N.Nodup) (ha : DA X b [a, c] ta) (hi : X.N[i]? = some x := by rfl) (hj : X.N[j]? = some y := by rfl) (hij : i ≠ j := by decide)
    (hx : X.env.scope.names.lookup x = some .local := by rfl) (hy : X.env.scope.names.lookup y = some .local := by rfl)
    (hb : X.env.blockKind = .function := by rfl) (h2 : py.line = px.line := by rfl) (hne : ¬ y = x := by decide) (hsa : isSt a = false := by rfl) (hsc : isSt c = false := by rfl) (hf : (foldedForSure 8 a && foldedForSure 8 c) = false := by rfl) (hk : (constantsAlone 8 a && constantsAlone 8 c) = false := by rfl)
    (hs : swapsWithSole [.Tuple [.Name x px, .Name y py] kt pt] (.Tuple [a, c] k2 pt2) pos.line X.env = pure false := by rfl) :
    DS X b (.Assign [.Tuple [.Name x px, .Name y py] kt pt] (.Tuple [a, c] k2 pt2) pos) (dPar i j ta) :=
  ds_par hc hN ha hi hj hij hx hy (sw_two hb hx hy h2 hne hsa hsc hf hk) hs
theorem sw_all {env : Env} {ts vs : List Expr} {pt : Pos} {kt k2 : Nat} {pt2 : Pos} (hf : vs.all (foldedForSure 8) = true) : swappedStores [.Tuple ts kt pt] (.Tuple vs k2 pt2) env = pure none := by
  unfold swappedStores
  simp [hf]
theorem ds_asgC {X : Cx} {b : Bs} {vs : List Nat} {ts es : List Expr} {pos pt pt2 : Pos} {kt k2 : Nat} {t : DTE} {g : DTG} (he : DE X b (.Tuple es k2 pt2) t) (hg : DG X b (.Tuple ts kt pt) vs g) (hf : es.all (foldedForSure 8) = true := by rfl) (hs : swapsWithSole [.Tuple ts kt pt] (.Tuple es k2 pt2) pos.line X.env = pure false := by rfl)
    (h1 : (assignEach [.Tuple ts kt pt] X.env).map (·.2) = [assign (.Tuple ts kt pt) X.env] := by rfl) : DS X b (.Assign [.Tuple ts kt pt] (.Tuple es k2 pt2) pos) (dAsg t g) := ds_asg he hg hs (sw_all hf) h1
end DL

set_option Elab.async false
set_option linter.all false
set_option maxRecDepth 100000
set_option maxHeartbeats 2000000
namespace DL
open PySem PySem.Spec PyProof.Rows L2 LamX NdefX
/-- the def of a class's body -/
def clsB : Stmt → Nat → Stmt
  | .ClassDef _ _ _ body _ _ _ _ _ _ _, i => body.getD i (.Pass ⟨0, 0, 0, 0⟩)
  | _, _ => .Pass ⟨0, 0, 0, 0⟩
/-- __init__ of the class D as the top has left it -/
structure InitL (P : Program) (K : PySem.W.Frag) (qual : Str) (st : Stmt) (D f : Addr) where
  oc : Value
  od : Option Addr
  kV : Value
  doc : Value
  pm : Value
  an : Option Addr
  cda : Addr
  ct : Value
  cc : Addr
  osl : Array (Option Value)
  lk : K.lookup f = some ⟨oc, od, .func (PySem.W.ksFn "__init__" qual (defArgs st) (defBody st) (defScope st) .none kV doc pm an (.ref cda) ct cc), osl⟩
  hcd : PySem.W.codeIn K (.ref cda) qual = true
  cl : Value
  cld : Option Addr
  csl : Array (Option Value)
  hcell : K.lookup cc = some ⟨cl, cld, .cell (some (.ref D)), csl⟩
  ccl : Value
  cdd : Option Addr
  vsc : Array Value
  ccs : Array (Option Value)
  hcode : K.lookup cda = some ⟨ccl, cdd, .fields vsc, ccs⟩
  file : Str
  tf : Tok
  hvs : vsc[2]? = some (.str file tf)
  hfile : ((P.main.file : Str) == file) = true
abbrev InitL.fd {P : Program} {K : PySem.W.Frag} {qual : Str} {st : Stmt} {D f : Addr} (F : InitL P K qual st D f) : FuncData := PySem.W.ksFn "__init__" qual (defArgs st) (defBody st) (defScope st) .none F.kV F.doc F.pm F.an (.ref F.cda) F.ct F.cc
def InitL.of {P : Program} {K : PySem.W.Frag} {qual : Str} {st : Stmt} {D f : Addr} {oc : Value} {od : Option Addr} {kV doc pm : Value} {an : Option Addr} {cda : Addr} {ct : Value} {cc : Addr} {osl : Array (Option Value)}
    (lk : K.lookup f = some ⟨oc, od, .func (PySem.W.ksFn "__init__" qual (defArgs st) (defBody st) (defScope st) .none kV doc pm an (.ref cda) ct cc), osl⟩) (hcd : PySem.W.codeIn K (.ref cda) qual = true)
    {cl : Value} {cld : Option Addr} {csl : Array (Option Value)} (hcell : K.lookup cc = some ⟨cl, cld, .cell (some (.ref D)), csl⟩) {ccl : Value} {cdd : Option Addr} {vsc : Array Value} {ccs : Array (Option Value)} (hcode : K.lookup cda = some ⟨ccl, cdd, .fields vsc, ccs⟩)
    {file : Str} {tf : Tok} (hvs : vsc[2]? = some (.str file tf)) (hfile : ((P.main.file : Str) == file) = true) : InitL P K qual st D f := ⟨oc, od, kV, doc, pm, an, cda, ct, cc, osl, lk, hcd, cl, cld, csl, hcell, ccl, cdd, vsc, ccs, hcode, file, tf, hvs, hfile⟩
def FunL.of {K : PySem.W.Frag} {x qual : Str} {st : Stmt} {f : Addr} {oc : Value} {od : Option Addr} {kV doc pm : Value} {an : Option Addr} {cd ct : Value} {osl : Array (Option Value)}
    (lk : K.lookup f = some ⟨oc, od, .func (PySem.W.fnOf x qual (defArgs st) (defBody st) (defScope st) .none kV doc pm an cd ct), osl⟩) (cc : PySem.W.codeIn K cd qual = true) (kp : PySem.W.keepIn K (.ref f) = true) : FunL K x qual st f := ⟨oc, od, kV, doc, pm, an, cd, ct, osl, lk, cc, kp⟩
/-- classes by numbers -/
def clOf (l : List (Nat × Addr)) (n : Nat) : Option Addr := l.lookup n
theorem clOf_mem : ∀ {l : List (Nat × Addr)} {n : Nat} {C : Addr}, clOf l n = some C → (n, C) ∈ l
  | [], n, C, h => by cases h
  | (m, B) :: r, n, C, h => by
    have h : (match n == m with | true => some B | false => r.lookup n) = some C := h
    cases e : n == m with
    | true =>
      rw [e] at h
      cases h
      rw [eq_of_beq e]
      exact List.mem_cons_self
    | false =>
      rw [e] at h
      exact List.mem_cons_of_mem _ (clOf_mem (l := r) h)
theorem clsOk_of {K : PySem.W.Frag} {l : List (Nat × Addr)} (xf : ∀ p ∈ l, XfC K p.2 ∧ PySem.W.findIn K (.ref p.2) "what" = some none) (em : ∀ p ∈ l, ∀ q ∈ l, PySem.W.exmOne K (.ref p.2) (.ref q.2) = some (isSub p.1 q.1)) : ClsOk K (clOf l) :=
  ⟨fun n C h => xf _ (clOf_mem h), fun n C m M h1 h2 => em _ (clOf_mem h1) _ (clOf_mem h2)⟩
/-- one class's facts -/
structure OneC (K : PySem.W.Frag) (C : Addr) : Prop where
  xf : PySem.W.findIn K (.ref C) "__getattribute__" = some (some (.builtin "BaseException.__getattribute__"))
  gg : PySem.W.findIn K (.ref C) "__getattr__" = some none
  ex : PySem.W.subIn K (.ref C) (.type "BaseException") = some true
  hd : PySem.W.hasDictIn K C = true
  wh : PySem.W.findIn K (.ref C) "what" = some none
  ty : PySem.W.typeIn K (.ref C) = some (.type "type")
  kp : PySem.W.keepIn K (.ref C) = true
theorem OneC.x {K : PySem.W.Frag} {C : Addr} (h : OneC K C) : XfC K C ∧ PySem.W.findIn K (.ref C) "what" = some none := ⟨⟨h.xf, h.gg, h.ex, h.hd⟩, h.wh⟩
theorem em_of {K : PySem.W.Frag} {C : Addr} {cls : Value} {b : Bool} (h1 : PySem.W.subIn K (.ref C) (.type "BaseException") = some true) (h2 : PySem.W.hasDictIn K C = true) (h3 : PySem.W.typeIn K (.ref C) = some (.type "type")) (h4 : PySem.W.subIn K cls (.ref C) = some b) : PySem.W.exmOne K cls (.ref C) = some b := by
  have hc : (PySem.W.clsIn K C).isSome = true := by
    unfold PySem.W.hasDictIn at h2
    cases q : PySem.W.clsIn K C with
    | none => rw [q] at h2; cases h2
    | some c => rfl
  have e1 : (PySem.W.subIn K (.ref C) (.type "BaseException") == some true) = true := by rw [h1] <;> rfl
  have e2 : ((PySem.W.clsIn K C).isSome && PySem.W.typeIn K (.ref C) == some (.type "type")) = true := by rw [hc, h3] <;> rfl
  show (if (PySem.W.subIn K (.ref C) (.type "BaseException") == some true) = true then (if ((PySem.W.clsIn K C).isSome && PySem.W.typeIn K (.ref C) == some (.type "type")) = true then PySem.W.subIn K cls (.ref C) else none) else none) = some b
  rw [if_pos e1, if_pos e2]
  exact h4
/-- a raised class's facts -/
structure MadeC (K : PySem.W.Frag) (C D fI : Addr) : Prop where
  cls : ∃ nm q N bs bm sn sub ab col dd k0 k1 k2 k3 k5, K.lookup C = some (excClassObj nm q C N bs bm true sn sub ab col dd k0 k1 k2 k3 k5 "ValueError.__new__") ∧ PySem.HandSPX.refsVE bm = true
  sa : PySem.W.findIn K (.ref C) "__setattr__" = some (some (.builtin "object.__setattr__"))
  mro : PySem.W.mroIn K C (.ref D) = some true
  sup : PySem.W.ks_superIn K C D "__init__" = some (some (.builtin "ValueError.__init__"))
  ve : PySem.W.subIn K (.ref C) (.type "ValueError") = some true
  iC : PySem.W.findIn K (.ref C) "__init__" = some (some (.ref fI))
theorem oexC_of {K : PySem.W.Frag} {C D fI : Addr} (m : MadeC K C D fI) (o : OneC K C) : OexC K C := ⟨m.cls, m.sa, o.ex, o.ty, o.kp⟩
theorem supC_of {P : Program} {K : PySem.W.Frag} {C D fI : Addr} (m : MadeC K C D fI) (o : OneC K C) (th : PySem.W.nsIn K cStatics "thirdparty.any" = some none) (dcl : (PySem.W.clsIn K D).isSome = true) (top : (P.main.scope.names.lookup ("super" : Str)).isSome = false) : SupC P K C D :=
  ⟨oexC_of m o, m.mro, m.sup, m.ve, th, o.wh, Option.isSome_iff_exists.mp dcl, top⟩
/-- the table of a code object -/
theorem cls_of {K : PySem.W.Frag} {C : Addr} {nm q : Str} {N : Addr} {bs bm : List Value} {sn : List Str} {sub : List Value} {ab : Bool} {col : Option Bool} {dd : Option Addr} {k0 k1 k2 k3 k5 : Option Value}
    (h : K.lookup C = some (excClassObj nm q C N bs bm true sn sub ab col dd k0 k1 k2 k3 k5 "ValueError.__new__")) (r : PySem.HandSPX.refsVE bm = true) : ∃ nm q N bs bm sn sub ab col dd k0 k1 k2 k3 k5, K.lookup C = some (excClassObj nm q C N bs bm true sn sub ab col dd k0 k1 k2 k3 k5 "ValueError.__new__") ∧ PySem.HandSPX.refsVE bm = true := ⟨_, _, _, _, _, _, _, _, _, _, _, _, _, _, _, h, r⟩
/-- the end: the law's promise from its data promise -/
theorem law_sp {K : PySem.W.Frag} {T : List (Addr × Str)} {CL : Nat → Option Addr} {sp : DSp} {H : Hp} {a : Addr} {ns : List Int} (hT : ∀ p ∈ T, H p.1 = some (.tbl #[])) (hS : SqL K H a (ns.map V.int))
    (h : sp [.fz (.rol (ns.map D.int))] (fun r _ => r = .fz (.bl true)) (fun _ _ => False)) : spD K T CL sp [.ref a] H (fun v _ => v = .bl true) fun _ _ _ => False := by
  classical
  let Φ : Hp := fun b => if ∃ ps, H b = some (.tbl ps) then none else H b
  have hΦ : ∀ b o, Φ b = some o → H b = some o ∧ ∀ ps, o ≠ .tbl ps := fun b o e => by
    have e : (if ∃ ps, H b = some (.tbl ps) then none else H b) = some o := e
    split at e
    · cases e
    · rename_i q
      exact ⟨e, fun ps z => q ⟨ps, by rw [e, z]⟩⟩
  have hΨ : ∀ b o, H b = some o → (∀ ps, o ≠ .tbl ps) → Φ b = some o := fun b o e n => by
    show (if ∃ ps, H b = some (.tbl ps) then none else H b) = some o
    rw [if_neg fun ⟨ps, z⟩ => n ps (by rw [e] at z; exact Option.some.inj z), e]
  have hS' : SqL K Φ a (ns.map V.int) := by
    rcases hS with (q | ⟨o, q⟩) | q
    · exact .inl (.inl (hΨ _ _ q fun ps z => by cases z))
    · exact .inl (.inr ⟨o, hΨ _ _ q fun ps z => by cases z⟩)
    · exact .inr q
  have rs : ∀ l : List Int, Rs K Φ (l.map D.int) (l.map V.int) := fun l => by
    induction l with
    | nil => simp [Rs]
    | cons x r ih => exact ⟨.int x, r.map V.int, rfl, rfl, ih⟩
  refine ⟨Φ, [none], [.fz (.rol (ns.map D.int))], _, _, fun b o e => (hΦ b o e).1, fun b ps z => (hΦ b _ z).2 ps rfl, fun p hp => .nil (hT p hp), ⟨.ref a, [], [], rfl, rfl, ⟨a, _, rfl, hS', rs ns⟩, rfl, rfl⟩, fun i j b h1 h2 => ?_, h,
    fun _ _ _ _ _ _ _ _ _ _ _ z => z.elim, fun v H' Φ' r outs X' O rr q => ?_⟩
  · cases i with
    | zero => simp at h1
    | succ i => simp at h1
  · subst q
    exact rr
end DL

set_option Elab.async false
set_option linter.all false
set_option maxRecDepth 100000
set_option maxHeartbeats 2000000
namespace DL
open PySem PySem.Spec PyProof.Rows L2 LamX
def rdS : Sl → (D → Prop) → Prop
  | .fz d, Q => Q d
  | .own o, Q => Q o.d
  | .bor o, Q => Q o.d
  | .no, _ => False
def frS : Sl → Nat → En → (D → En → Prop) → Prop
  | .fz d, _, η, Q => Q d η
  | .own o, i, η, Q => Q o.d (η.set i (.fz o.d))
  | _, _, _, _ => False
def nmS : Sl → Nat → En → (Rv → En → Prop) → Prop
  | .no, _, _, _ => False
  | .fz d, _, η, Q => Q (.fz d) η
  | _, i, η, Q => Q (.at i) η
def rtS : Sl → List Sl → En → (Rv → List OC → Prop) → Prop
  | .fz d, as, η, QD => QD (.fz d) (outsOf as η)
  | .own o, as, η, QD => QD (.own o) (outsOf as η)
  | _, _, _, _ => False
def lnS : Sl → Sl
  | .own o => .bor o
  | s => s
section
variable {η : En} {i j : Nat} {d e : D} {o : OC} {x y : Int} {s t : Str} {k l : Bool} {ds es : List D} {as : List Sl} {us : List Ar} {os : List OC} {ks : List Key}
variable {Q : D → Prop} {QE : D → En → Prop} {QR : Rv → Prop} {QV : Rv → En → Prop} {QD : Rv → List OC → Prop} {QB : Bool → Prop} {QS : List D → Prop} {QN : En → Prop} {QI : Int → Prop} {QL : D → List D → Prop} {tg : DTG} {tgs : DTGs}
theorem rdQ_fz : rdQ (.fz d) η Q = Q d := rfl
theorem rdQ_own : rdQ (.own o) η Q = Q o.d := rfl
theorem rdQ_at : rdQ (.at i) η Q = rdS (slot η i) Q := by unfold rdQ; dsimp only; generalize slot η i = z; cases z <;> rfl
theorem rdS_fz : rdS (.fz d) Q = Q d := rfl
theorem rdS_own : rdS (.own o) Q = Q o.d := rfl
theorem rdS_bor : rdS (.bor o) Q = Q o.d := rfl
theorem frzQ_fz : frzQ (.fz d) η QE = QE d η := rfl
theorem frzQ_own : frzQ (.own o) η QE = QE o.d η := rfl
theorem frzQ_at : frzQ (.at i) η QE = frS (slot η i) i η QE := by unfold frzQ; dsimp only; generalize slot η i = z; cases z <;> rfl
theorem frS_fz : frS (.fz d) i η QE = QE d η := rfl
theorem frS_own : frS (.own o) i η QE = QE o.d (η.set i (.fz o.d)) := rfl
theorem nmQ_s : nmQ i η QV = nmS (slot η i) i η QV := by unfold nmQ; generalize slot η i = z; cases z <;> rfl
theorem nmS_fz : nmS (.fz d) i η QV = QV (.fz d) η := rfl
theorem nmS_own : nmS (.own o) i η QV = QV (.at i) η := rfl
theorem nmS_bor : nmS (.bor o) i η QV = QV (.at i) η := rfl
theorem retQ_fz : retQ as (.fz d) η QD = QD (.fz d) (outsOf as η) := rfl
theorem retQ_own : retQ as (.own o) η QD = QD (.own o) (outsOf as η) := rfl
theorem retQ_at : retQ as (.at i) η QD = rtS (slot η i) as η QD := by unfold retQ; dsimp only; generalize slot η i = z; cases z <;> rfl
theorem rtS_fz : rtS (.fz d) as η QD = QD (.fz d) (outsOf as η) := rfl
theorem rtS_own : rtS (.own o) as η QD = QD (.own o) (outsOf as η) := rfl
theorem argsOf_at : argsOf η (.at i :: us) = lnS (slot η i) :: argsOf η us := by show (match slot η i with | .own o => Sl.bor o | s => s) :: argsOf η us = _; generalize slot η i = z; cases z <;> rfl
theorem argsOf_d : argsOf η (.d d :: us) = .fz d :: argsOf η us := rfl
theorem argsOf_n : argsOf η [] = [] := rfl
theorem lnS_own : lnS (.own o) = .bor o := rfl
theorem lnS_bor : lnS (.bor o) = .bor o := rfl
theorem lnS_fz : lnS (.fz d) = .fz d := rfl
theorem reS_o {u : OC} : reS (.own o) u = .own u := rfl
theorem reS_b {u : OC} : reS (.bor o) u = .bor u := rfl
theorem setF_d {r : Rv} : setF i r η QN = (notBor (slot η i) = true ∧ frzQ r η fun d η1 => QN (η1.set i (.fz d))) := rfl
theorem setO_own : setO i (.own o) η QN = (notBor (slot η i) = true ∧ QN (η.set i (.own o))) := rfl
theorem setO_fz : setO i (.fz d) η QN = (notBor (slot η i) = true ∧ QN (η.set i (.fz d))) := rfl
theorem setO_at : setO i (.at j) η QN = (notBor (slot η i) = true ∧ frzQ (.at j) η fun d η1 => QN (η1.set i (.fz d))) := rfl
theorem notBor_fz : notBor (.fz d) = true := rfl
theorem notBor_own : notBor (.own o) = true := rfl
theorem notBor_no : notBor .no = true := rfl
theorem isOwn_own : (Sl.own o).isOwn = true := rfl
theorem isOwn_bor : (Sl.bor o).isOwn = true := rfl
theorem addD_ii : addD (.int x) (.int y) QR = QR (.fz (.int (x + y))) := rfl
theorem addD_ss : addD (.str s) (.str t) QR = (s.length + t.length ≤ sizeLine ∧ QR (.fz (.str (s ++ t)))) := rfl
theorem addD_ll : addD (.lst ds) (.lst es) QR = (ds.length + es.length ≤ sizeLine ∧ QR (.own (.lst (ds ++ es)))) := rfl
theorem addD_tt : addD (.tup ds) (.tup es) QR = (ds.length + es.length ≤ sizeLine ∧ QR (.fz (.tup (ds ++ es)))) := rfl
theorem subD_ii : subD (.int x) (.int y) QR = QR (.fz (.int (x - y))) := rfl
theorem mulD_ii : mulD (.int x) (.int y) QR = ((CMul x y ∨ CMulW x y) ∧ QR (.fz (.int (x * y)))) := rfl
theorem mulD_li : mulD (.lst ds) (.int y) QR = ((-(2 ^ 63) ≤ y ∧ y < 2 ^ 63) ∧ ds.length * y.toNat ≤ sizeLine ∧ QR (.own (.lst (List.replicate y.toNat ds).flatten))) := rfl
theorem mulD_ti : mulD (.tup ds) (.int y) QR = ((ds ≠ [] ∧ 1 ≤ y ∧ y ≤ 1000 ∧ ds.length ≤ 1000) ∧ QR (.fz (.tup (List.replicate y.toNat ds).flatten))) := rfl
theorem fdivD_ii : fdivD (.int x) (.int y) QR = (CDivW x y ∧ QR (.fz (.int (x / y)))) := rfl
theorem modD_ii : modD (.int x) (.int y) QR = (0 < y ∧ QR (.fz (.int (x % y)))) := rfl
theorem powD_ii : powD (.int x) (.int y) QR = (CPow x y ∧ QR (.fz (.int (x ^ y.toNat)))) := rfl
theorem negD_i : negD (.int x) QR = QR (.fz (.int (-x))) := rfl
theorem ltD_ii : ltD (.int x) (.int y) QB = QB (decide (x < y)) := rfl
theorem leD_ii : leD (.int x) (.int y) QB = QB (decide (x ≤ y)) := rfl
theorem gtD_ii : gtD (.int x) (.int y) QB = QB (decide (y < x)) := rfl
theorem geD_ii : geD (.int x) (.int y) QB = QB (decide (y ≤ x)) := rfl
theorem isQ_n : DL.isQ d .non QB = QB (isN d) := by cases d <;> rfl
theorem isQ_b : DL.isQ (.bl k) (.bl l) QB = QB (decide (k = l)) := rfl
theorem nisQ_n : nisQ d .non QB = QB (!isN d) := by cases d <;> rfl
theorem isN_non : isN .non = true := rfl
theorem isN_bl : isN (.bl k) = false := rfl
theorem isN_int : isN (.int x) = false := rfl
theorem isN_str : isN (.str s) = false := rfl
theorem isN_tup : isN (.tup ds) = false := rfl
theorem isN_lst : isN (.lst ds) = false := rfl
theorem isN_rol : isN (.rol ds) = false := rfl
theorem isN_dct : isN (.dct ks ds) = false := rfl
theorem isT_int_non : isT .int .non = false := rfl
theorem isT_int_bl : isT .int (.bl k) = true := rfl
theorem isT_int_int : isT .int (.int x) = true := rfl
theorem isT_int_str : isT .int (.str s) = false := rfl
theorem isT_int_tup : isT .int (.tup ds) = false := rfl
theorem isT_int_lst : isT .int (.lst ds) = false := rfl
theorem isT_int_rol : isT .int (.rol ds) = false := rfl
theorem isT_int_dct : isT .int (.dct ks ds) = false := rfl
theorem isT_bool_non : isT .bool .non = false := rfl
theorem isT_bool_bl : isT .bool (.bl k) = true := rfl
theorem isT_bool_int : isT .bool (.int x) = false := rfl
theorem isT_bool_str : isT .bool (.str s) = false := rfl
theorem isT_bool_tup : isT .bool (.tup ds) = false := rfl
theorem isT_bool_lst : isT .bool (.lst ds) = false := rfl
theorem isT_bool_rol : isT .bool (.rol ds) = false := rfl
theorem isT_bool_dct : isT .bool (.dct ks ds) = false := rfl
theorem isT_str_non : isT .str .non = false := rfl
theorem isT_str_bl : isT .str (.bl k) = false := rfl
theorem isT_str_int : isT .str (.int x) = false := rfl
theorem isT_str_str : isT .str (.str s) = true := rfl
theorem isT_str_tup : isT .str (.tup ds) = false := rfl
theorem isT_str_lst : isT .str (.lst ds) = false := rfl
theorem isT_str_rol : isT .str (.rol ds) = false := rfl
theorem isT_str_dct : isT .str (.dct ks ds) = false := rfl
theorem isT_tuple_non : isT .tuple .non = false := rfl
theorem isT_tuple_bl : isT .tuple (.bl k) = false := rfl
theorem isT_tuple_int : isT .tuple (.int x) = false := rfl
theorem isT_tuple_str : isT .tuple (.str s) = false := rfl
theorem isT_tuple_tup : isT .tuple (.tup ds) = true := rfl
theorem isT_tuple_lst : isT .tuple (.lst ds) = false := rfl
theorem isT_tuple_rol : isT .tuple (.rol ds) = false := rfl
theorem isT_tuple_dct : isT .tuple (.dct ks ds) = false := rfl
theorem isT_list_non : isT .list .non = false := rfl
theorem isT_list_bl : isT .list (.bl k) = false := rfl
theorem isT_list_int : isT .list (.int x) = false := rfl
theorem isT_list_str : isT .list (.str s) = false := rfl
theorem isT_list_tup : isT .list (.tup ds) = false := rfl
theorem isT_list_lst : isT .list (.lst ds) = true := rfl
theorem isT_list_rol : isT .list (.rol ds) = true := rfl
theorem isT_list_dct : isT .list (.dct ks ds) = false := rfl
theorem isT_dict_non : isT .dict .non = false := rfl
theorem isT_dict_bl : isT .dict (.bl k) = false := rfl
theorem isT_dict_int : isT .dict (.int x) = false := rfl
theorem isT_dict_str : isT .dict (.str s) = false := rfl
theorem isT_dict_tup : isT .dict (.tup ds) = false := rfl
theorem isT_dict_lst : isT .dict (.lst ds) = false := rfl
theorem isT_dict_rol : isT .dict (.rol ds) = false := rfl
theorem isT_dict_dct : isT .dict (.dct ks ds) = true := rfl
theorem truQ_non : truQ .non QB = QB false := rfl
theorem truQ_bl : truQ (.bl k) QB = QB k := rfl
theorem truQ_int : truQ (.int x) QB = QB (x != 0) := rfl
theorem truQ_tup : truQ (.tup ds) QB = QB (!ds.isEmpty) := rfl
theorem truQ_lst : truQ (.lst ds) QB = QB (!ds.isEmpty) := rfl
theorem blQ_bl : blQ (.bl k) QB = QB k := rfl
theorem lenD_tup : lenD (.tup ds) QR = QR (.fz (.int ds.length)) := rfl
theorem lenD_lst : lenD (.lst ds) QR = QR (.fz (.int ds.length)) := rfl
theorem lenD_rol : lenD (.rol ds) QR = QR (.fz (.int ds.length)) := rfl
theorem lenD_str : lenD (.str s) QR = (s.length ≤ sizeLine ∧ QR (.fz (.int s.length))) := rfl
theorem tupD_tup : tupD (.tup ds) QR = QR (.fz (.tup ds)) := rfl
theorem tupD_lst : tupD (.lst ds) QR = QR (.fz (.tup ds)) := rfl
theorem lstD_tup : lstD (.tup ds) QR = QR (.own (.lst ds)) := rfl
theorem lstD_lst : lstD (.lst ds) QR = QR (.own (.lst ds)) := rfl
theorem lstD_rol : lstD (.rol ds) QR = QR (.own (.lst ds)) := rfl
theorem intD_i : DL.intD (.int x) QR = QR (.fz (.int x)) := rfl
theorem intD_b : DL.intD (.bl k) QR = QR (.fz (.int (if k then 1 else 0))) := rfl
theorem boolD_i : boolD (.int x) QR = QR (.fz (.bl (x != 0))) := rfl
theorem boolD_b : boolD (.bl k) QR = QR (.fz (.bl k)) := rfl
theorem ixD_tup : ixD (.tup ds) (.int x) QR = ∃ d, atI ds x = some d ∧ QR (.fz d) := rfl
theorem ixD_lst : ixD (.lst ds) (.int x) QR = ∃ d, atI ds x = some d ∧ QR (.fz d) := rfl
theorem ixD_rol : ixD (.rol ds) (.int x) QR = ∃ d, atI ds x = some d ∧ QR (.fz d) := rfl
theorem slD_lst {lo hi : Option Int} : slD lo hi (.lst ds) QR = QR (.own (.lst (cutD ds lo hi))) := rfl
theorem slD_tup {lo hi : Option Int} : slD lo hi (.tup ds) QR = QR (.fz (.tup (cutD ds lo hi))) := rfl
theorem intQ_i : intQ (.int x) QI = QI x := rfl
theorem appD_1 : appD ds [d] QL = (ds.length < sizeLine ∧ QL .non (ds ++ [d])) := rfl
theorem extD_1 : extD ds [.lst es] QL = (ds.length + es.length ≤ sizeLine ∧ QL .non (ds ++ es)) := rfl
theorem lsQ_own : lsQ (.own (.lst ds)) QS = QS ds := rfl
theorem lsQ_bor : lsQ (.bor (.lst ds)) QS = QS ds := rfl
theorem gTp_t : gTp i tgs (.tup ds) η QN = (ds.length = i ∧ tgs ds η QN) := rfl
theorem gsCons_c : gsCons tg tgs (d :: ds) η QN = tg d η fun η1 => tgs ds η1 QN := rfl
theorem seqQ_t : seqQ (.tup ds) QS = QS ds := rfl
theorem seqQ_l : seqQ (.lst ds) QS = QS ds := rfl
theorem seqQ_r : seqQ (.rol ds) QS = QS ds := rfl
theorem hideS_fz : hideS (.fz d) = .fz d := rfl
theorem hideS_own : hideS (.own o) = .no := rfl
theorem hideS_bor : hideS (.bor o) = .no := rfl
theorem hideS_no : hideS .no = .no := rfl
theorem mmQ_ii {f : Int → Int → Int} : mmQ f (.int x) (.int y) QR = QR (.fz (.int (f x y))) := rfl
theorem atI_0 {α : Type} {a : α} {r : List α} : atI (a :: r) 0 = some a := by unfold atI ixN; rw [if_pos (by decide), if_pos (by simp only [List.length_cons]; omega)]; rfl
theorem atI_1 {α : Type} {a b : α} {r : List α} : atI (a :: b :: r) 1 = some b := by unfold atI ixN; rw [if_pos (by decide), if_pos (by simp only [List.length_cons]; omega)]; rfl
theorem atI_2 {α : Type} {a b c : α} {r : List α} : atI (a :: b :: c :: r) 2 = some c := by unfold atI ixN; rw [if_pos (by decide), if_pos (by simp only [List.length_cons]; omega)]; rfl
end
theorem ixN_nat {n : Nat} {i : Int} (h0 : 0 ≤ i) (h1 : i < n) : ixN n i = some i.toNat := by
  unfold ixN
  rw [if_pos h0, if_pos h1]
theorem atI_nat {α : Type} {l : List α} {i : Int} {a : α} (h0 : 0 ≤ i) (h : l[i.toNat]? = some a) : atI l i = some a := by
  have hl := (List.getElem?_eq_some_iff.mp h).1
  unfold atI
  rw [ixN_nat h0 (by omega)]
  exact h
theorem ixN3_0 : ixN (0 + 1 + 1 + 1) 0 = some 0 := by decide
theorem ixN3_1 : ixN (0 + 1 + 1 + 1) 1 = some 1 := by decide
theorem ixN3_2 : ixN (0 + 1 + 1 + 1) 2 = some 2 := by decide
theorem ex_some {α : Type} {a : α} {P : α → Prop} : (∃ d, some a = some d ∧ P d) = P a := by simp
theorem dRaise_1 {n : Nat} {ED : Nat → D → Prop} {t : DTE} {Dn : DEnds} {η : En} : dRaise n ED (dCons t dNil) Dn η = t η fun r η1 => frzQ r η1 fun d _ => ED n d := rfl
theorem dHeard_e {hs : List (Nat × Str)} {tb : (Nat → D → Prop) → DTE} {η : En} {Q : Rv → En → Prop} : dHeard hs tb η Q = tb (fun n what => hQ hs n fun nm => Q (.fz (.tup [.str nm, what])) η) (hideE η) fun r η' => frzQ r η' fun d _ => Q (.fz (.tup [.str "told", d])) η := rfl
theorem pick_0 {α : Type} {a : α} : pick [0] [a] = [a] := rfl
theorem pick_10 {α : Type} {a b : α} : pick [1, 0] [a, b] = [b, a] := rfl
theorem pick_210 {α : Type} {a b c : α} : pick [2, 1, 0] [a, b, c] = [c, b, a] := rfl
theorem rep2 {α : Type} {a : α} : (List.replicate (Int.toNat 2) [a]).flatten = [a, a] := rfl
theorem ln3 {n : Nat} (h : n ≤ 1000) : n ≤ sizeLine := by rw [sizeLine_eq]; omega
theorem forL_ind {g : DTG} {tb : DTS} {Dn : DEnds} {Inv : List D → En → Prop} (h0 : ∀ η, Inv [] η → Dn.nx η)
    (hs : ∀ d ds η (K : En → Prop), Inv (d :: ds) η → (∀ η', Inv ds η' → K η') → g d η fun η1 => tb { Dn with nx := K, ct := K, bk := Dn.nx } η1) : ∀ ds η, Inv ds η → forL g tb Dn ds η
  | [], η, h => h0 η h
  | d :: ds, η, h => hs d ds η _ h fun η' h' => forL_ind h0 hs ds η' h'
theorem lcL_ind {g : DTG} {tt : DTT} {te : DTE} {vs : List Nat} {Q : List D → En → Prop} {Inv : List D → List D → En → Prop} (h0 : ∀ acc η, Inv [] acc η → Q acc η)
    (hs : ∀ d ds acc η (K : List D → En → Prop), Inv (d :: ds) acc η → (∀ acc' η', Inv ds acc' η' → K acc' η') → g d η fun η1 => tt η1 fun k η2 => if k = true then te η2 fun r η3 => frzQ r η3 fun e η4 => acc.length < sizeLine ∧ wipeOk η4 vs ∧ K (acc ++ [e]) (wipeD η4 vs) else wipeOk η2 vs ∧ K acc (wipeD η2 vs)) :
    ∀ ds acc η, Inv ds acc η → lcL g tt te vs Q ds acc η
  | [], acc, η, h => h0 acc η h
  | d :: ds, acc, η, h => hs d ds acc η _ h fun acc' η' h' => lcL_ind h0 hs ds acc' η' h'
def Y : Nat → D → Prop
  | _, .non => True
  | _, .bl _ => True
  | _, .int _ => True
  | _, .str s => s.length ≤ sizeLine ∧ PyData.strOk s = true
  | k + 1, .tup ds => ds.length ≤ sizeLine ∧ ∀ d ∈ ds, Y k d
  | k + 1, .lst ds => ds.length ≤ sizeLine ∧ ∀ d ∈ ds, Y k d
  | _, _ => False
theorem Y.up : ∀ {k : Nat} {d : D}, Y k d → Y (k + 1) d
  | _, .non, _ => trivial
  | _, .bl _, _ => trivial
  | _, .int _, _ => trivial
  | 0, .str _, h => h
  | _ + 1, .str _, h => h
  | 0, .tup _, h => h.elim
  | 0, .lst _, h => h.elim
  | k + 1, .tup ds, h => ⟨h.1, fun d hd => Y.up (h.2 d hd)⟩
  | k + 1, .lst ds, h => ⟨h.1, fun d hd => Y.up (h.2 d hd)⟩
  | 0, .rol _, h => h.elim
  | _ + 1, .rol _, h => h.elim
  | 0, .dct _ _, h => h.elim
  | _ + 1, .dct _ _, h => h.elim
theorem Y.le {k m : Nat} {d : D} (h : Y k d) (hm : k ≤ m) : Y m d := by
  induction hm with
  | refl => exact h
  | step _ ih => exact ih.up
theorem okD_int {x : Int} : okD (.int x) := rfl
theorem okD_bl {x : Bool} : okD (.bl x) := rfl
theorem okD_str {s : Str} (h : PyData.strOk s = true) : okD (.str s) := by
  show SeqAt.shaped (.str s) = true
  unfold SeqAt.shaped
  simp [PyData.canLay0, h, PyData.depth]
theorem eqD_int {x y : Int} : eqD (.int x) (.int y) = (x == y) := rfl
theorem eqD_bl {x y : Bool} : eqD (.bl x) (.bl y) = (x == y) := rfl
theorem eqD_str {s t : Str} : eqD (.str s) (.str t) = (s == t) := rfl
theorem intsOk {f : D → PyData} : ∀ {ds : List D}, (∀ d ∈ ds, ∃ i, d = .int i) → PyData.canLayAll0 (pys ds) = true ∧ PyData.depthAll (pys ds) = 0
  | [], _ => ⟨rfl, rfl⟩
  | d :: ds, h => by
    obtain ⟨i, rfl⟩ := h d List.mem_cons_self
    obtain ⟨h1, h2⟩ := intsOk (f := f) (ds := ds) fun e he => h e (List.mem_cons_of_mem _ he)
    exact ⟨by simp [pys, py, PyData.canLayAll0, PyData.canLay0, h1], by simp [pys, py, PyData.depthAll, PyData.depth, h2]⟩
theorem okD_ints {ds : List D} (h : ∀ d ∈ ds, ∃ i, d = .int i) : okD (.lst ds) := by
  obtain ⟨h1, h2⟩ := intsOk (f := py) h
  show SeqAt.shaped (.list (pys ds)) = true
  unfold SeqAt.shaped
  simp [PyData.canLay0, PyData.depth, h1, h2]
theorem eqD_nil {ds : List D} : eqD (.lst ds) (.lst []) = ds.isEmpty := by
  cases ds with
  | nil => rfl
  | cons d r => rfl
def rngs : Nat → Nat → List D
  | _, 0 => []
  | i, k + 1 => .int (i : Nat) :: rngs (i + 1) k
theorem rngD_eq (n : Nat) : ∀ lo k : Nat, (List.range' lo k).map (fun (i : Nat) => D.int (0 + (i : Int))) = rngs lo k
  | lo, 0 => rfl
  | lo, k + 1 => by
    rw [List.range'_succ, List.map_cons, rngD_eq n (lo + 1) k]
    simp [rngs]
theorem rngD_0 (n : Nat) : rngD 0 n = rngs 0 n := by
  unfold rngD
  rw [List.range_eq_range', rngD_eq n]
def firstN (p : Nat → D → Bool) : Nat → List D → D
  | _, [] => .non
  | i, d :: ds => if p i d = true then firstN p (i + 1) ds else .int (i : Nat)
def bads (p : Nat → D → Bool) : Nat → List D → List D
  | _, [] => []
  | i, d :: ds => if p i d = true then bads p (i + 1) ds else .int (i : Nat) :: bads p (i + 1) ds
theorem bads_first (p : Nat → D → Bool) : ∀ (i : Nat) (ds : List D), (bads p i ds = [] ∧ firstN p i ds = .non) ∨ ∃ (j : Int) (r : List D), bads p i ds = .int j :: r ∧ firstN p i ds = .int j
  | _, [] => .inl ⟨rfl, rfl⟩
  | i, d :: ds => by
    unfold bads firstN
    by_cases h : p i d = true
    · rw [if_pos h, if_pos h]; exact bads_first p (i + 1) ds
    · rw [if_neg h, if_neg h]; exact .inr ⟨_, _, rfl, rfl⟩
theorem bads_no {p : Nat → D → Bool} {i : Nat} {d : D} {ds : List D} (h : p i d = false) : bads p i (d :: ds) = .int (i : Nat) :: bads p (i + 1) ds := by
  show (if p i d = true then bads p (i + 1) ds else _) = _
  rw [if_neg (by rw [h]; decide)]
theorem bads_ok {p : Nat → D → Bool} {i : Nat} {d : D} {ds : List D} (h : p i d = true) : bads p i (d :: ds) = bads p (i + 1) ds := by
  show (if p i d = true then bads p (i + 1) ds else _) = _
  rw [if_pos h]
theorem bads_ints (p : Nat → D → Bool) : ∀ (i : Nat) (ds : List D), ∀ d ∈ bads p i ds, ∃ j, d = .int j
  | _, [], d, h => by cases h
  | i, e :: ds, d, h => by
    unfold bads at h
    by_cases q : p i e = true
    · rw [if_pos q] at h; exact bads_ints p (i + 1) ds d h
    · rw [if_neg q] at h
      rcases List.mem_cons.mp h with h | h
      · exact ⟨_, h⟩
      · exact bads_ints p (i + 1) ds d h
theorem bads_len (p : Nat → D → Bool) : ∀ (i : Nat) (ds : List D), (bads p i ds).length ≤ ds.length
  | _, [] => Nat.le_refl _
  | i, e :: ds => by
    unfold bads
    have := bads_len p (i + 1) ds
    split <;> simp <;> omega
theorem firstN_all {p : Nat → D → Bool} : ∀ {i : Nat} {ds : List D}, firstN p i ds = .non → ∀ (j : Nat) (d : D), ds[j]? = some d → p (i + j) d = true
  | _, [], _, j, d, h => by simp at h
  | i, e :: ds, q, j, d, h => by
    unfold firstN at q
    by_cases c : p i e = true
    · rw [if_pos c] at q
      cases j with
      | zero => simp at h; rw [← h]; exact c
      | succ j =>
        have := firstN_all q j d (by simpa using h)
        rw [show i + (j + 1) = i + 1 + j by omega]; exact this
    · rw [if_neg c] at q; cases q
def betw (l m : Int) : D → Bool
  | .int i => decide (l ≤ i) && decide (i ≤ m)
  | _ => false
theorem isN_firstN {p : Nat → D → Bool} {i : Nat} {ds : List D} : (firstN p i ds = .non ∧ isN (firstN p i ds) = true) ∨ ∃ j : Int, firstN p i ds = .int j := by
  rcases bads_first p i ds with ⟨_, h⟩ | ⟨j, r, _, h⟩
  · exact .inl ⟨h, by rw [h]; rfl⟩
  · exact .inr ⟨j, h⟩
theorem lenZ {n : Nat} (h : n ≤ sizeLine) : sm62 (n : Int) := by
  unfold sm62
  rw [sizeLine_eq] at h
  omega
def J (o : OC) : Prop := ∃ a b c : Int, o = .lst [.int a, .int b, .int c]
end DL

set_option Elab.async false
set_option linter.all false
set_option maxRecDepth 100000
set_option maxHeartbeats 2000000
namespace DL
open PySem PySem.Spec PyProof.Rows L2 LamX
/-- t is d, and nothing is changed -/
def Pu (t : DTE) (η : En) (d : D) : Prop := ∀ K : D → En → Prop, K d η → t η fun r η1 => frzQ r η1 K
def PA (ta : DTA) (η : En) (ds : List D) : Prop := ∀ K : List Ar → En → Prop, K (ds.map Ar.d) η → ta η K
section
variable {t u : DTE} {ta : DTA} {η : En} {d e : D} {ds es : List D} {Q : Rv → En → Prop} {QA : List Ar → En → Prop}
theorem dsQ_map {K : List D → Prop} : ∀ {ds : List D}, dsQ (ds.map Ar.d) K = K ds
  | [] => rfl
  | d :: ds => dsQ_map (K := fun r => K (d :: r)) (ds := ds)
theorem Pu.c {c : D} : Pu (dC c) η c := fun _ h => h
theorem Pu.v {i : Nat} (h : slot η i = .fz d) : Pu (dV i) η d := fun K k => by
  show nmQ i η _
  unfold nmQ
  rw [h]
  exact k
theorem Pu.neg {x : Int} : Pu (dUn negD (dC (.int x))) η (.int (-x)) := fun _ h => h
theorem Pu.pow {x y : Int} (h : CPow x y) : Pu (dOp powD (dC (.int x)) (dC (.int y))) η (.int (x ^ y.toNat)) := fun _ k => ⟨h, k⟩
theorem PA.nil : PA dNil η [] := fun _ h => h
theorem PA.cons (h : Pu t η d) (hr : PA ta η ds) : PA (dCons t ta) η (d :: ds) := fun _ k => h _ (hr _ k)
theorem Pu.tup (h : PA ta η ds) (hl : ds.length ≤ sizeLine) : Pu (dTup ta) η (.tup ds) := fun K k => h _ (by rw [dsQ_map]; exact ⟨hl, k⟩)
theorem Pu.lst (h : PA ta η ds) (hl : ds.length ≤ sizeLine) : Pu (dLst ta) η (.lst ds) := fun K k => h _ (by rw [dsQ_map]; exact ⟨hl, k⟩)
theorem lst_i (h : PA ta η ds) (hl : ds.length ≤ sizeLine) (q : Q (.own (.lst ds)) η) : dLst ta η Q := h _ (by rw [dsQ_map]; exact ⟨hl, q⟩)
theorem tup_i (h : PA ta η ds) (hl : ds.length ≤ sizeLine) (q : Q (.fz (.tup ds)) η) : dTup ta η Q := h _ (by rw [dsQ_map]; exact ⟨hl, q⟩)
/-- (c,) * n, n told -/
theorem Pu.mulT {ta : DTA} {y : Int} (h : PA ta η ds) (hu : Pu u η (.int y)) (hl : ds.length ≤ sizeLine) (hm : ds ≠ [] ∧ 1 ≤ y ∧ y ≤ 1000 ∧ ds.length ≤ 1000) (hu2 : ∀ K : Rv → En → Prop, K (.fz (.int y)) η → u η K) : Pu (dOp mulD (dTup ta) u) η (.tup (List.replicate y.toNat ds).flatten) :=
  fun K k => h _ (by rw [dsQ_map]; exact ⟨hl, hu2 _ ⟨hm, k⟩⟩)
theorem Pu.mulL {ta : DTA} {y : Int} (h : PA ta η ds) (hl : ds.length ≤ sizeLine) (hm : (-(2 ^ 63) ≤ y ∧ y < 2 ^ 63) ∧ ds.length * y.toNat ≤ sizeLine) (hu2 : ∀ K : Rv → En → Prop, K (.fz (.int y)) η → u η K) : Pu (dOp mulD (dLst ta) u) η (.lst (List.replicate y.toNat ds).flatten) :=
  fun K k => h _ (by rw [dsQ_map]; exact ⟨hl, hu2 _ ⟨hm.1, hm.2, k⟩⟩)
theorem uC {y : Int} : ∀ K : Rv → En → Prop, K (.fz (.int y)) η → dC (.int y) η K := fun _ h => h
theorem uV {i : Nat} {y : Int} (h : slot η i = .fz (.int y)) : ∀ K : Rv → En → Prop, K (.fz (.int y)) η → dV i η K := fun K k => by
  show nmQ i η K
  unfold nmQ
  rw [h]
  exact k
/-- one part, then the others -/
theorem Pu.andThen (h : Pu t η d) (k : ta η fun as η1 => QA (.d d :: as) η1) : dCons t ta η QA := h _ k
theorem rep_mem {c : D} {n : Nat} {x : D} (h : x ∈ (List.replicate n [c]).flatten) : x = c := by
  obtain ⟨l, h1, h2⟩ := List.mem_flatten.mp h
  rw [List.eq_of_mem_replicate h1] at h2
  exact List.mem_singleton.mp h2
theorem rep_len {c : D} {n : Nat} : ((List.replicate n [c]).flatten).length = n := by
  induction n with
  | zero => rfl
  | succ n ih => rw [List.replicate_succ, List.flatten_cons, List.length_append, ih]; simp; omega
theorem op_i {rd : DO2} {a c : DTE} (h : a η fun r1 η1 => c η1 fun r2 η2 => rdQ r1 η2 fun d1 => rdQ r2 η2 fun d2 => rd d1 d2 fun r => Q r η2) : dOp rd a c η Q := h
/-- (list of data)[i] -/
theorem ix_lst {ta : DTA} {i : Nat} {x : Int} (h : PA ta η ds) (hl : ds.length ≤ sizeLine) (hi : slot η i = .fz (.int x)) (he : atI ds x = some e) (q : Q (.fz e) η) : dOp ixD (dLst ta) (dV i) η Q :=
  op_i (lst_i h hl (uV hi _ ⟨e, he, q⟩))
theorem seq_i {t u : DTS} {Dn : DEnds} (h : t { Dn with nx := u Dn } η) : dSeq t u Dn η := h
theorem set_i {i : Nat} {Dn : DEnds} (h : t η fun r η1 => setF i r η1 Dn.nx) : dSet i t Dn η := h
theorem setO_i {i : Nat} {Dn : DEnds} (h : t η fun r η1 => setO i r η1 Dn.nx) : dSetO i t Dn η := h
theorem ret_i {Dn : DEnds} (h : t η Dn.rt) : dRet t Dn η := h
/-- pure parts ahead of others -/
def PAp (F : DTA → DTA) (η : En) (ds : List D) : Prop := ∀ (ta : DTA) (QA : List Ar → En → Prop), (ta η fun as η1 => QA (ds.map Ar.d ++ as) η1) → F ta η QA
theorem PAp.nil : PAp (fun ta => ta) η [] := fun _ _ h => h
theorem PAp.cons {F : DTA → DTA} (h : Pu t η d) (hF : PAp F η ds) : PAp (fun ta => dCons t (F ta)) η (d :: ds) := fun ta QA k => h _ (hF ta _ k)
theorem dsQ_app {as : List Ar} {K : List D → Prop} : ∀ {ds : List D}, dsQ (ds.map Ar.d ++ as) K = dsQ as fun es => K (ds ++ es)
  | [] => rfl
  | d :: ds => dsQ_app (K := fun r => K (d :: r)) (ds := ds)
theorem lstP {F : DTA → DTA} (hF : PAp F η ds) (h : ta η fun as η1 => dsQ as fun es => (ds ++ es).length ≤ sizeLine ∧ Q (.own (.lst (ds ++ es))) η1) : dLst (F ta) η Q := by
  refine hF ta _ ?_
  have e : (fun (as : List Ar) (η1 : En) => dsQ (ds.map Ar.d ++ as) fun es => es.length ≤ sizeLine ∧ Q (.own (.lst es)) η1) = fun as η1 => dsQ as fun es => (ds ++ es).length ≤ sizeLine ∧ Q (.own (.lst (ds ++ es))) η1 := by
    funext as η1
    exact dsQ_app
  exact e ▸ h
theorem nb_i {i : Nat} {Dn : DEnds} {ds : List D} (hb : notBor (slot η i) = true) (h : Dn.nx (η.set i (.fz (.lst ds)))) : setF i (.own (.lst ds)) η Dn.nx := ⟨hb, h⟩
theorem for_i {g : DTG} {tb : DTS} {Dn : DEnds} (h : t η fun r η1 => frzQ r η1 fun d η2 => seqQ d fun ds => forL g tb Dn ds η2) : dFor (iSeq t) g tb Dn η := h
end
end DL

set_option Elab.async false
set_option linter.all false
set_option maxRecDepth 100000
set_option maxHeartbeats 4000000
namespace K01
open PySem PySem.Spec PyProof.Rows L2 LamX NdefX DL

def topS (i : Nat) : Stmt := PySem.Challenge.pw_campsapart_k01_sizes_and_pages_of_anythi.main.body.getD i (.Pass ⟨0, 0, 0, 0⟩)
abbrev s_is_between : Stmt := topS 7
theorem sc_is_between : FnScope ["thing", "least", "most"] ["thing", "least", "most"] (defScope s_is_between) := ⟨rfl, rfl, rfl, by decide +kernel, rfl, by decide +kernel, by decide +kernel⟩
abbrev s_is_below : Stmt := topS 8
theorem sc_is_below : FnScope ["thing", "bound"] ["thing", "bound"] (defScope s_is_below) := ⟨rfl, rfl, rfl, by decide +kernel, rfl, by decide +kernel, by decide +kernel⟩
abbrev s_wrong_size : Stmt := topS 9
theorem sc_wrong_size : FnScope ["thing", "index", "size"] ["thing"] (defScope s_wrong_size) := ⟨rfl, rfl, rfl, by decide +kernel, rfl, by decide +kernel, by decide +kernel⟩
abbrev s_is_sizes : Stmt := topS 10
theorem sc_is_sizes : FnScope ["thing"] ["thing"] (defScope s_is_sizes) := ⟨rfl, rfl, rfl, by decide +kernel, rfl, by decide +kernel, by decide +kernel⟩
abbrev s_made_sizes : Stmt := topS 11
theorem sc_made_sizes : FnScope ["thing", "place"] ["thing"] (defScope s_made_sizes) := ⟨rfl, rfl, rfl, by decide +kernel, rfl, by decide +kernel, by decide +kernel⟩
abbrev s_wrong_worth : Stmt := topS 12
theorem sc_wrong_worth : FnScope ["sizes", "thing", "setting", "worth"] ["sizes", "thing"] (defScope s_wrong_worth) := ⟨rfl, rfl, rfl, by decide +kernel, rfl, by decide +kernel, by decide +kernel⟩
abbrev s_is_page : Stmt := topS 13
theorem sc_is_page : FnScope ["sizes", "thing"] ["sizes", "thing"] (defScope s_is_page) := ⟨rfl, rfl, rfl, by decide +kernel, rfl, by decide +kernel, by decide +kernel⟩
abbrev s_made_page : Stmt := topS 14
theorem sc_made_page : FnScope ["sizes", "thing", "place"] ["sizes", "thing"] (defScope s_made_page) := ⟨rfl, rfl, rfl, by decide +kernel, rfl, by decide +kernel, by decide +kernel⟩
abbrev s_pool : Stmt := topS 16
theorem sc_pool : FnScope ["script", "digits", "stirred", "at", "cell"] ["script"] (defScope s_pool) := ⟨rfl, rfl, rfl, by decide +kernel, rfl, by decide +kernel, by decide +kernel⟩
abbrev s_take : Stmt := topS 17
theorem sc_take : FnScope ["jar", "top", "found"] ["jar", "top"] (defScope s_take) := ⟨rfl, rfl, rfl, by decide +kernel, rfl, by decide +kernel, by decide +kernel⟩
abbrev s_one : Stmt := topS 18
theorem sc_one : FnScope ["jar", "things"] ["jar", "things"] (defScope s_one) := ⟨rfl, rfl, rfl, by decide +kernel, rfl, by decide +kernel, by decide +kernel⟩
abbrev s_yq_is_whole : Stmt := topS 19
theorem sc_yq_is_whole : FnScope ["thing"] ["thing"] (defScope s_yq_is_whole) := ⟨rfl, rfl, rfl, by decide +kernel, rfl, by decide +kernel, by decide +kernel⟩
abbrev s_yq_same : Stmt := topS 20
theorem sc_yq_same : FnScope ["heard_one", "owed", "at"] ["heard_one", "owed"] (defScope s_yq_same) := ⟨rfl, rfl, rfl, by decide +kernel, rfl, by decide +kernel, by decide +kernel⟩
abbrev s_zc_sizes_due : Stmt := topS 21
theorem sc_zc_sizes_due : FnScope ["thing", "bad", "at"] ["thing"] (defScope s_zc_sizes_due) := ⟨rfl, rfl, rfl, by decide +kernel, rfl, by decide +kernel, by decide +kernel⟩
abbrev s_zc_page_due : Stmt := topS 22
theorem sc_zc_page_due : FnScope ["sizes", "thing", "bad", "at"] ["sizes", "thing"] (defScope s_zc_page_due) := ⟨rfl, rfl, rfl, by decide +kernel, rfl, by decide +kernel, by decide +kernel⟩
abbrev s_zc_sizes : Stmt := topS 23
theorem sc_zc_sizes : FnScope ["jar", "n", "sort", "at"] ["jar", "n"] (defScope s_zc_sizes) := ⟨rfl, rfl, rfl, by decide +kernel, rfl, by decide +kernel, by decide +kernel⟩
abbrev s_zc_page : Stmt := topS 24
theorem sc_zc_page : FnScope ["jar", "sizes", "size"] ["jar", "sizes"] (defScope s_zc_page) := ⟨rfl, rfl, rfl, by decide +kernel, rfl, by decide +kernel, by decide +kernel⟩
abbrev s_heard : Stmt := topS 25
theorem sc_heard : FnScope ["asked_now", "error_one"] ["asked_now"] (defScope s_heard) := ⟨rfl, rfl, rfl, by decide +kernel, rfl, by decide +kernel, by decide +kernel⟩
abbrev s_sizes_told : Stmt := topS 26
theorem sc_sizes_told : FnScope ["thing", "made"] ["thing"] (defScope s_sizes_told) := ⟨rfl, rfl, rfl, by decide +kernel, rfl, by decide +kernel, by decide +kernel⟩
abbrev s_page_told : Stmt := topS 27
theorem sc_page_told : FnScope ["sizes", "thing", "made"] ["sizes", "thing"] (defScope s_page_told) := ⟨rfl, rfl, rfl, by decide +kernel, rfl, by decide +kernel, by decide +kernel⟩
abbrev s_owed : Stmt := topS 28
theorem sc_owed : FnScope ["due", "thing"] ["due", "thing"] (defScope s_owed) := ⟨rfl, rfl, rfl, by decide +kernel, rfl, by decide +kernel, by decide +kernel⟩
abbrev s_sizes_right : Stmt := topS 29
theorem sc_sizes_right : FnScope ["thing"] ["thing"] (defScope s_sizes_right) := ⟨rfl, rfl, rfl, by decide +kernel, rfl, by decide +kernel, by decide +kernel⟩
abbrev s_page_right : Stmt := topS 30
theorem sc_page_right : FnScope ["sizes", "thing", "due"] ["sizes", "thing"] (defScope s_page_right) := ⟨rfl, rfl, rfl, by decide +kernel, rfl, by decide +kernel, by decide +kernel⟩
abbrev s_deep : Stmt := topS 31
theorem sc_deep : FnScope ["jar", "thing", "go"] ["jar", "thing"] (defScope s_deep) := ⟨rfl, rfl, rfl, by decide +kernel, rfl, by decide +kernel, by decide +kernel⟩
abbrev s_bent : Stmt := topS 32
theorem sc_bent : FnScope ["jar", "row", "odds", "made", "go", "some", "spot"] ["jar", "row", "odds"] (defScope s_bent) := ⟨rfl, rfl, rfl, by decide +kernel, rfl, by decide +kernel, by decide +kernel⟩
abbrev s_things : Stmt := topS 33
theorem sc_things : FnScope ["jar", "made"] ["jar"] (defScope s_things) := ⟨rfl, rfl, rfl, by decide +kernel, rfl, by decide +kernel, by decide +kernel⟩
abbrev s_world_right : Stmt := topS 34
theorem sc_world_right : FnScope ["jar", "n", "sizes", "odds", "thing", "page", "worths", "top", "bad", "size"] ["jar", "n"] (defScope s_world_right) := ⟨rfl, rfl, rfl, by decide +kernel, rfl, by decide +kernel, by decide +kernel⟩
abbrev s_law : Stmt := topS 35
theorem sc_law : FnScope ["script", "jar", "n", "thing", "said", "owed"] ["script"] (defScope s_law) := ⟨rfl, rfl, rfl, by decide +kernel, rfl, by decide +kernel, by decide +kernel⟩
abbrev s_init : Stmt := clsB (topS 1) 0
/-- what the top has left -/
structure Fx (P : Program) (K : PySem.W.Frag) (mg : Str → Option Value) (base : Heap) (T : List (Addr × Str)) (CL : Nat → Option Addr) where
  a_is_between : Addr
  F_is_between : FunL K "is_between" "is_between" s_is_between a_is_between
  g_is_between : mg "is_between" = some (.ref a_is_between)
  a_is_below : Addr
  F_is_below : FunL K "is_below" "is_below" s_is_below a_is_below
  g_is_below : mg "is_below" = some (.ref a_is_below)
  a_wrong_size : Addr
  F_wrong_size : FunL K "wrong_size" "wrong_size" s_wrong_size a_wrong_size
  g_wrong_size : mg "wrong_size" = some (.ref a_wrong_size)
  a_is_sizes : Addr
  F_is_sizes : FunL K "is_sizes" "is_sizes" s_is_sizes a_is_sizes
  g_is_sizes : mg "is_sizes" = some (.ref a_is_sizes)
  a_made_sizes : Addr
  F_made_sizes : FunL K "made_sizes" "made_sizes" s_made_sizes a_made_sizes
  g_made_sizes : mg "made_sizes" = some (.ref a_made_sizes)
  a_wrong_worth : Addr
  F_wrong_worth : FunL K "wrong_worth" "wrong_worth" s_wrong_worth a_wrong_worth
  g_wrong_worth : mg "wrong_worth" = some (.ref a_wrong_worth)
  a_is_page : Addr
  F_is_page : FunL K "is_page" "is_page" s_is_page a_is_page
  g_is_page : mg "is_page" = some (.ref a_is_page)
  a_made_page : Addr
  F_made_page : FunL K "made_page" "made_page" s_made_page a_made_page
  g_made_page : mg "made_page" = some (.ref a_made_page)
  a_pool : Addr
  F_pool : FunL K "_law_pool" "_law_pool" s_pool a_pool
  g_pool : mg "_law_pool" = some (.ref a_pool)
  a_take : Addr
  F_take : FunL K "_law_take" "_law_take" s_take a_take
  g_take : mg "_law_take" = some (.ref a_take)
  a_one : Addr
  F_one : FunL K "_law_one" "_law_one" s_one a_one
  g_one : mg "_law_one" = some (.ref a_one)
  a_yq_is_whole : Addr
  F_yq_is_whole : FunL K "_law_yq_is_whole" "_law_yq_is_whole" s_yq_is_whole a_yq_is_whole
  g_yq_is_whole : mg "_law_yq_is_whole" = some (.ref a_yq_is_whole)
  a_yq_same : Addr
  F_yq_same : FunL K "_law_yq_same" "_law_yq_same" s_yq_same a_yq_same
  g_yq_same : mg "_law_yq_same" = some (.ref a_yq_same)
  a_zc_sizes_due : Addr
  F_zc_sizes_due : FunL K "_law_zc_sizes_due" "_law_zc_sizes_due" s_zc_sizes_due a_zc_sizes_due
  g_zc_sizes_due : mg "_law_zc_sizes_due" = some (.ref a_zc_sizes_due)
  a_zc_page_due : Addr
  F_zc_page_due : FunL K "_law_zc_page_due" "_law_zc_page_due" s_zc_page_due a_zc_page_due
  g_zc_page_due : mg "_law_zc_page_due" = some (.ref a_zc_page_due)
  a_zc_sizes : Addr
  F_zc_sizes : FunL K "_law_zc_sizes" "_law_zc_sizes" s_zc_sizes a_zc_sizes
  g_zc_sizes : mg "_law_zc_sizes" = some (.ref a_zc_sizes)
  a_zc_page : Addr
  F_zc_page : FunL K "_law_zc_page" "_law_zc_page" s_zc_page a_zc_page
  g_zc_page : mg "_law_zc_page" = some (.ref a_zc_page)
  a_heard : Addr
  F_heard : FunL K "_law_heard" "_law_heard" s_heard a_heard
  g_heard : mg "_law_heard" = some (.ref a_heard)
  a_sizes_told : Addr
  F_sizes_told : FunL K "_law_sizes_told" "_law_sizes_told" s_sizes_told a_sizes_told
  g_sizes_told : mg "_law_sizes_told" = some (.ref a_sizes_told)
  a_page_told : Addr
  F_page_told : FunL K "_law_page_told" "_law_page_told" s_page_told a_page_told
  g_page_told : mg "_law_page_told" = some (.ref a_page_told)
  a_owed : Addr
  F_owed : FunL K "_law_owed" "_law_owed" s_owed a_owed
  g_owed : mg "_law_owed" = some (.ref a_owed)
  a_sizes_right : Addr
  F_sizes_right : FunL K "_law_sizes_right" "_law_sizes_right" s_sizes_right a_sizes_right
  g_sizes_right : mg "_law_sizes_right" = some (.ref a_sizes_right)
  a_page_right : Addr
  F_page_right : FunL K "_law_page_right" "_law_page_right" s_page_right a_page_right
  g_page_right : mg "_law_page_right" = some (.ref a_page_right)
  a_deep : Addr
  F_deep : FunL K "_law_deep" "_law_deep" s_deep a_deep
  g_deep : mg "_law_deep" = some (.ref a_deep)
  a_bent : Addr
  F_bent : FunL K "_law_bent" "_law_bent" s_bent a_bent
  g_bent : mg "_law_bent" = some (.ref a_bent)
  a_things : Addr
  F_things : FunL K "_law_things" "_law_things" s_things a_things
  g_things : mg "_law_things" = some (.ref a_things)
  a_world_right : Addr
  F_world_right : FunL K "_law_world_right" "_law_world_right" s_world_right a_world_right
  g_world_right : mg "_law_world_right" = some (.ref a_world_right)
  a_law : Addr
  F_law : FunL K "law" "law" s_law a_law
  g_law : mg "law" = some (.ref a_law)
  n_bool : mg "bool" = none
  n_enumerate : mg "enumerate" = none
  n_int : mg "int" = none
  n_isinstance : mg "isinstance" = none
  n_len : mg "len" = none
  n_list : mg "list" = none
  n_max : mg "max" = none
  n_range : mg "range" = none
  n_str : mg "str" = none
  n_tuple : mg "tuple" = none
  t_MOST_SETTINGS : Tok
  g_MOST_SETTINGS : mg "MOST_SETTINGS" = some (.int 24 t_MOST_SETTINGS)
  t_MOST_WORTHS : Tok
  g_MOST_WORTHS : mg "MOST_WORTHS" = some (.int 6 t_MOST_WORTHS)
  c_sizes_told : Addr
  P_sizes_told : Addr
  code_sizes_told : F_sizes_told.cd = .ref c_sizes_told
  tb_sizes_told : TabB base mg c_sizes_told P_sizes_told
  in_sizes_told : (P_sizes_told, ("_law_sizes_told" : Str) ++ ".<locals>." ++ "<lambda>") ∈ T
  only_sizes_told : ∀ p ∈ T, p.1 = P_sizes_told → p.2 = ("_law_sizes_told" : Str) ++ ".<locals>." ++ "<lambda>"
  c_page_told : Addr
  P_page_told : Addr
  code_page_told : F_page_told.cd = .ref c_page_told
  tb_page_told : TabB base mg c_page_told P_page_told
  in_page_told : (P_page_told, ("_law_page_told" : Str) ++ ".<locals>." ++ "<lambda>") ∈ T
  only_page_told : ∀ p ∈ T, p.1 = P_page_told → p.2 = ("_law_page_told" : Str) ++ ".<locals>." ++ "<lambda>"
  CO : ClsOk K CL
  C_Refused : Addr
  cl_Refused : CL 0 = some C_Refused
  gc_Refused : mg "Refused" = some (.ref C_Refused)
  C_BadSizes : Addr
  cl_BadSizes : CL 1 = some C_BadSizes
  gc_BadSizes : mg "BadSizes" = some (.ref C_BadSizes)
  C_BadPage : Addr
  cl_BadPage : CL 2 = some C_BadPage
  gc_BadPage : mg "BadPage" = some (.ref C_BadPage)
  i_f : Addr
  I : InitL P K "Refused.__init__" s_init C_Refused i_f
  tI : PySem.W.typeIn K (.ref i_f) = some (.type "function")
  n_super : mg "super" = none
  m_BadSizes : SupC P K C_BadSizes C_Refused
  iC_BadSizes : PySem.W.findIn K (.ref C_BadSizes) "__init__" = some (some (.ref i_f))
  m_BadPage : SupC P K C_BadPage C_Refused
  iC_BadPage : PySem.W.findIn K (.ref C_BadPage) "__init__" = some (some (.ref i_f))
section
variable {P : Program} {w : World} {K : PySem.W.Frag} {mg : Str → Option Value} {base : Heap} {T : List (Addr × Str)} {CL : Nat → Option Addr}
theorem ok_init (F : Fx P K mg base T CL) {C : Addr} (m : SupC P K C F.C_Refused) : FnOk P w K mg base (L2.CX P w) 1 F.i_f F.I.fd ["self", "what"] (initS C) :=
  init_ok (k := 0) m F.I.lk F.I.hcd F.I.hcell F.I.hcode F.I.hvs F.I.hfile (nscope_by (by decide +kernel)) rfl rfl rfl rfl rfl rfl F.n_super rfl (fun L => ⟨_, rfl⟩) (fun L => rfl) (fun L => rfl)
theorem bd_init (F : Fx P K mg base T CL) : L2.Binds K F.I.fd ["self", "what"] [] := .all fun us hl => match us, hl with | [_, _], _ => rfl
theorem rz_BadSizes (F : Fx P K mg base T CL) : RzC P w K mg base CL 1 "BadSizes" 1 F.C_BadSizes F.i_f F.I.fd := ⟨F.m_BadSizes.oex, F.iC_BadSizes, F.tI, ok_init F F.m_BadSizes, bd_init F, F.gc_BadSizes, F.cl_BadSizes⟩
theorem rz_BadPage (F : Fx P K mg base T CL) : RzC P w K mg base CL 2 "BadPage" 1 F.C_BadPage F.i_f F.I.fd := ⟨F.m_BadPage.oex, F.iC_BadPage, F.tI, ok_init F F.m_BadPage, bd_init F, F.gc_BadPage, F.cl_BadPage⟩
theorem bd_is_between (F : Fx P K mg base T CL) : L2.Binds K F.F_is_between.fd ["thing", "least", "most"] [] := F.F_is_between.fn.binds (ps := ["thing", "least", "most"]) fun _ _ _ _ _ _ us hl => match us, hl with | [_, _, _], _ => rfl
theorem bd_is_below (F : Fx P K mg base T CL) : L2.Binds K F.F_is_below.fd ["thing", "bound"] [] := F.F_is_below.fn.binds (ps := ["thing", "bound"]) fun _ _ _ _ _ _ us hl => match us, hl with | [_, _], _ => rfl
theorem bd_wrong_size (F : Fx P K mg base T CL) : L2.Binds K F.F_wrong_size.fd ["thing"] [] := F.F_wrong_size.fn.binds (ps := ["thing"]) fun _ _ _ _ _ _ us hl => match us, hl with | [_], _ => rfl
theorem bd_is_sizes (F : Fx P K mg base T CL) : L2.Binds K F.F_is_sizes.fd ["thing"] [] := F.F_is_sizes.fn.binds (ps := ["thing"]) fun _ _ _ _ _ _ us hl => match us, hl with | [_], _ => rfl
theorem bd_made_sizes (F : Fx P K mg base T CL) : L2.Binds K F.F_made_sizes.fd ["thing"] [] := F.F_made_sizes.fn.binds (ps := ["thing"]) fun _ _ _ _ _ _ us hl => match us, hl with | [_], _ => rfl
theorem bd_wrong_worth (F : Fx P K mg base T CL) : L2.Binds K F.F_wrong_worth.fd ["sizes", "thing"] [] := F.F_wrong_worth.fn.binds (ps := ["sizes", "thing"]) fun _ _ _ _ _ _ us hl => match us, hl with | [_, _], _ => rfl
theorem bd_is_page (F : Fx P K mg base T CL) : L2.Binds K F.F_is_page.fd ["sizes", "thing"] [] := F.F_is_page.fn.binds (ps := ["sizes", "thing"]) fun _ _ _ _ _ _ us hl => match us, hl with | [_, _], _ => rfl
theorem bd_made_page (F : Fx P K mg base T CL) : L2.Binds K F.F_made_page.fd ["sizes", "thing"] [] := F.F_made_page.fn.binds (ps := ["sizes", "thing"]) fun _ _ _ _ _ _ us hl => match us, hl with | [_, _], _ => rfl
theorem bd_pool (F : Fx P K mg base T CL) : L2.Binds K F.F_pool.fd ["script"] [] := F.F_pool.fn.binds (ps := ["script"]) fun _ _ _ _ _ _ us hl => match us, hl with | [_], _ => rfl
theorem bd_take (F : Fx P K mg base T CL) : L2.Binds K F.F_take.fd ["jar", "top"] [] := F.F_take.fn.binds (ps := ["jar", "top"]) fun _ _ _ _ _ _ us hl => match us, hl with | [_, _], _ => rfl
theorem bd_one (F : Fx P K mg base T CL) : L2.Binds K F.F_one.fd ["jar", "things"] [] := F.F_one.fn.binds (ps := ["jar", "things"]) fun _ _ _ _ _ _ us hl => match us, hl with | [_, _], _ => rfl
theorem bd_yq_is_whole (F : Fx P K mg base T CL) : L2.Binds K F.F_yq_is_whole.fd ["thing"] [] := F.F_yq_is_whole.fn.binds (ps := ["thing"]) fun _ _ _ _ _ _ us hl => match us, hl with | [_], _ => rfl
theorem bd_yq_same (F : Fx P K mg base T CL) : L2.Binds K F.F_yq_same.fd ["heard_one", "owed"] [] := F.F_yq_same.fn.binds (ps := ["heard_one", "owed"]) fun _ _ _ _ _ _ us hl => match us, hl with | [_, _], _ => rfl
theorem bd_zc_sizes_due (F : Fx P K mg base T CL) : L2.Binds K F.F_zc_sizes_due.fd ["thing"] [] := F.F_zc_sizes_due.fn.binds (ps := ["thing"]) fun _ _ _ _ _ _ us hl => match us, hl with | [_], _ => rfl
theorem bd_zc_page_due (F : Fx P K mg base T CL) : L2.Binds K F.F_zc_page_due.fd ["sizes", "thing"] [] := F.F_zc_page_due.fn.binds (ps := ["sizes", "thing"]) fun _ _ _ _ _ _ us hl => match us, hl with | [_, _], _ => rfl
theorem bd_zc_sizes (F : Fx P K mg base T CL) : L2.Binds K F.F_zc_sizes.fd ["jar", "n"] [] := F.F_zc_sizes.fn.binds (ps := ["jar", "n"]) fun _ _ _ _ _ _ us hl => match us, hl with | [_, _], _ => rfl
theorem bd_zc_page (F : Fx P K mg base T CL) : L2.Binds K F.F_zc_page.fd ["jar", "sizes"] [] := F.F_zc_page.fn.binds (ps := ["jar", "sizes"]) fun _ _ _ _ _ _ us hl => match us, hl with | [_, _], _ => rfl
theorem bd_heard (F : Fx P K mg base T CL) : L2.Binds K F.F_heard.fd ["asked_now"] [] := F.F_heard.fn.binds (ps := ["asked_now"]) fun _ _ _ _ _ _ us hl => match us, hl with | [_], _ => rfl
theorem bd_sizes_told (F : Fx P K mg base T CL) : L2.Binds K F.F_sizes_told.fd ["thing"] [] := F.F_sizes_told.fn.binds (ps := ["thing"]) fun _ _ _ _ _ _ us hl => match us, hl with | [_], _ => rfl
theorem bd_page_told (F : Fx P K mg base T CL) : L2.Binds K F.F_page_told.fd ["sizes", "thing"] [] := F.F_page_told.fn.binds (ps := ["sizes", "thing"]) fun _ _ _ _ _ _ us hl => match us, hl with | [_, _], _ => rfl
theorem bd_owed (F : Fx P K mg base T CL) : L2.Binds K F.F_owed.fd ["due", "thing"] [] := F.F_owed.fn.binds (ps := ["due", "thing"]) fun _ _ _ _ _ _ us hl => match us, hl with | [_, _], _ => rfl
theorem bd_sizes_right (F : Fx P K mg base T CL) : L2.Binds K F.F_sizes_right.fd ["thing"] [] := F.F_sizes_right.fn.binds (ps := ["thing"]) fun _ _ _ _ _ _ us hl => match us, hl with | [_], _ => rfl
theorem bd_page_right (F : Fx P K mg base T CL) : L2.Binds K F.F_page_right.fd ["sizes", "thing"] [] := F.F_page_right.fn.binds (ps := ["sizes", "thing"]) fun _ _ _ _ _ _ us hl => match us, hl with | [_, _], _ => rfl
theorem bd_deep (F : Fx P K mg base T CL) : L2.Binds K F.F_deep.fd ["jar", "thing"] [] := F.F_deep.fn.binds (ps := ["jar", "thing"]) fun _ _ _ _ _ _ us hl => match us, hl with | [_, _], _ => rfl
theorem bd_bent (F : Fx P K mg base T CL) : L2.Binds K F.F_bent.fd ["jar", "row", "odds"] [] := F.F_bent.fn.binds (ps := ["jar", "row", "odds"]) fun _ _ _ _ _ _ us hl => match us, hl with | [_, _, _], _ => rfl
theorem bd_things (F : Fx P K mg base T CL) : L2.Binds K F.F_things.fd ["jar"] [] := F.F_things.fn.binds (ps := ["jar"]) fun _ _ _ _ _ _ us hl => match us, hl with | [_], _ => rfl
theorem bd_world_right (F : Fx P K mg base T CL) : L2.Binds K F.F_world_right.fd ["jar", "n"] [] := F.F_world_right.fn.binds (ps := ["jar", "n"]) fun _ _ _ _ _ _ us hl => match us, hl with | [_, _], _ => rfl
theorem bd_law (F : Fx P K mg base T CL) : L2.Binds K F.F_law.fd ["script"] [] := F.F_law.fn.binds (ps := ["script"]) fun _ _ _ _ _ _ us hl => match us, hl with | [_], _ => rfl
theorem kb_made_sizes_0_thing (F : Fx P K mg base T CL) : KBinds K F.F_made_sizes.fd ["thing"] ["thing"] (kg 0 1 [0]) (kg 0 1 [0]) := kb_mkK F.F_made_sizes.fn (by simp) fun _ _ _ _ _ _ us ws h1 h2 => match us, ws, h1, h2 with | [], [_], _, _ => rfl
theorem kb_made_page_0_thing_sizes (F : Fx P K mg base T CL) : KBinds K F.F_made_page.fd ["sizes", "thing"] ["thing", "sizes"] (kg 0 2 [1, 0]) (kg 0 2 [1, 0]) := kb_mkK F.F_made_page.fn (by simp) fun _ _ _ _ _ _ us ws h1 h2 => match us, ws, h1, h2 with | [], [_, _], _, _ => rfl
def hs_heard : List (Nat × Str) := [(2, "BadPage"), (1, "BadSizes")]
theorem hh_heard (F : Fx P K mg base T CL) : Paired (fun (p : Nat × Str) (q : Addr × Str) => CL p.1 = some q.1 ∧ p.2 = q.2) hs_heard [(F.C_BadPage, "BadPage"), (F.C_BadSizes, "BadSizes")] := .cons ⟨F.cl_BadPage, rfl⟩ (.cons ⟨F.cl_BadSizes, rfl⟩ (.nil))
theorem gv_heard (F : Fx P K mg base T CL) {X : Cx} {cdg : Value} {qn : Str} (hm : X.mg = mg) : GivesTo X ["asked_now", "error_one"] "_law_heard" (defScope s_heard) F.a_heard cdg (defBody s_heard) "asked_now" qn (THeard X.K [(F.C_BadPage, "BadPage"), (F.C_BadSizes, "BadSizes")]) := by
  subst hm
  exact heard_gives (i := 1) sc_heard.nd rfl rfl (by decide) (by decide) (by decide) (.cons rfl F.gc_BadPage (by decide) (.cons rfl F.gc_BadSizes (by decide) (.nil)))
def td_is_between (ED : Nat → D → Prop) : DTS := (dRet (dAndV (dIsi .int (dV 0)) (dAndV (dNotV (dIsi .bool (dV 0))) (dChain leD leD (dV 1) (dV 0) (dV 2)))))
def sp_is_between : DSp := fun args QD ED => args.length = 3 ∧ bodyQ args 0 (td_is_between ED) QD
theorem ok_is_between (F : Fx P K mg base T CL) : FnOk P w K mg base (L2.CX P w) 1 F.a_is_between F.F_is_between.fd ["thing", "least", "most"] (spD K T CL sp_is_between) :=
  fn_okL (k := 0) F.F_is_between sc_is_between rfl (fun _ _ _ h => h.1) (fun _ _ _ h => h.2) fun A outer s H E Hb Φ ads ED hr tk => (dss_one (ds_ret (de_and (de_isi .int (by rfl) F.n_isinstance (by rfl) F.n_int (by decide +kernel) (de_v 0)) (de_and (de_not (de_isi .bool (by rfl) F.n_isinstance (by rfl) F.n_bool (by decide +kernel) (de_v 0))) (de_one (de_chain c_le c_le (de_v 1) (de_v 0) (de_v 2)))))))
def td_is_below (ED : Nat → D → Prop) : DTS := (dRet (dCall sp_is_between ED0 (dCons (dV 0) (dCons (dC (.int 0)) (dCons (dOp subD (dV 1) (dC (.int 1))) dNil)))))
def sp_is_below : DSp := fun args QD ED => args.length = 2 ∧ bodyQ args 0 (td_is_below ED) QD
theorem ok_is_below (F : Fx P K mg base T CL) : FnOk P w K mg base (L2.CX P w) 2 F.a_is_below F.F_is_below.fd ["thing", "bound"] (spD K T CL sp_is_below) :=
  fn_okL (k := 1) F.F_is_below sc_is_below rfl (fun _ _ _ h => h.1) (fun _ _ _ h => h.2) fun A outer s H E Hb Φ ads ED hr tk => (dss_one (ds_ret (de_call (ok_is_between F) (hr.mono (by decide)) (by rfl) F.g_is_between F.F_is_between.kp (bd_is_between F) (da_cons (de_v 0) (da_cons de_int (da_cons (de_op o_sub (de_v 1) de_int) da_nil))))))
def td_wrong_size (ED : Nat → D → Prop) : DTS := (dSeq (dIfS (dOr (dNot (dTru (dIsi .tuple (dV 0)))) (dNot (dTru (dCall sp_is_between ED0 (dCons (dUn lenD (dV 0)) (dCons (dC (.int 1)) (dCons (dC (.int 24)) dNil))))))) (dRet (dUn negD (dC (.int 1)))) dNext) (dSeq (dFor (iEnm (dV 0)) (gTp 2 (gsCons (gNm 1) (gsCons (gNm 2) gsNil))) (dIfS (dNot (dTru (dCall sp_is_between ED0 (dCons (dV 2) (dCons (dC (.int 1)) (dCons (dC (.int 6)) dNil)))))) (dRet (dV 1)) dNext)) (dRet (dC .non))))
def sp_wrong_size : DSp := fun args QD ED => args.length = 1 ∧ bodyQ args 2 (td_wrong_size ED) QD
theorem ok_wrong_size (F : Fx P K mg base T CL) : FnOk P w K mg base (L2.CX P w) 2 F.a_wrong_size F.F_wrong_size.fd ["thing"] (spD K T CL sp_wrong_size) :=
  fn_okL (k := 1) F.F_wrong_size sc_wrong_size rfl (fun _ _ _ h => h.1) (fun _ _ _ h => h.2) fun A outer s H E Hb Φ ads ED hr tk => (dss_cons (ds_if (dt_w (dw_or (dt_not (dt_e (de_isi .tuple (by rfl) F.n_isinstance (by rfl) F.n_tuple (by decide +kernel) (de_v 0)))) (dw_or1 (dt_not (dt_e (de_call (ok_is_between F) (hr.mono (by decide)) (by rfl) F.g_is_between F.F_is_between.kp (bd_is_between F) (da_cons (de_b1 o_len (by rfl) F.n_len (by decide +kernel) (de_v 0)) (da_cons de_int (da_cons (de_gl (v := .int 24) (d := .int 24) (by rfl) F.g_MOST_SETTINGS ⟨_, rfl⟩ (fun _ => rfl)) da_nil))))))))) (dss_one (ds_ret (de_neg de_int))) dss_nil) (dss_cons (ds_for (passes_of rfl) rfl (di_enum (by rfl) F.n_enumerate (de_v 0)) (dg_t rfl (dgs_cons (dg_n 1 sc_wrong_size.nd) (dgs_cons (dg_n 2 sc_wrong_size.nd) dgs_nil))) (dss_one (ds_if (dt_not (dt_e (de_call (ok_is_between F) (hr.mono (by decide)) (by rfl) F.g_is_between F.F_is_between.kp (bd_is_between F) (da_cons (de_v 2) (da_cons de_int (da_cons (de_gl (v := .int 6) (d := .int 6) (by rfl) F.g_MOST_WORTHS ⟨_, rfl⟩ (fun _ => rfl)) da_nil)))))) (dss_one (ds_ret (de_v 1))) dss_nil))) (dss_one (ds_ret de_non))))
def td_is_sizes (ED : Nat → D → Prop) : DTS := (dRet (dCmp isQ (dCall sp_wrong_size ED0 (dCons (dV 0) dNil)) (dC .non)))
def sp_is_sizes : DSp := fun args QD ED => args.length = 1 ∧ bodyQ args 0 (td_is_sizes ED) QD
theorem ok_is_sizes (F : Fx P K mg base T CL) : FnOk P w K mg base (L2.CX P w) 3 F.a_is_sizes F.F_is_sizes.fd ["thing"] (spD K T CL sp_is_sizes) :=
  fn_okL (k := 2) F.F_is_sizes sc_is_sizes rfl (fun _ _ _ h => h.1) (fun _ _ _ h => h.2) fun A outer s H E Hb Φ ads ED hr tk => (dss_one (ds_ret (de_cmp c_is (de_call (ok_wrong_size F) (hr.mono (by decide)) (by rfl) F.g_wrong_size F.F_wrong_size.kp (bd_wrong_size F) (da_cons (de_v 0) da_nil)) de_non)))
def td_made_sizes (ED : Nat → D → Prop) : DTS := (dSeq (dSet 1 (dCall sp_wrong_size ED0 (dCons (dV 0) dNil))) (dSeq (dIfS (dCmpT nisQ (dV 1) (dC .non)) (dRaise 1 ED (dCons (dV 1) dNil)) dNext) (dRet (dV 0))))
def sp_made_sizes : DSp := fun args QD ED => args.length = 1 ∧ bodyQ args 1 (td_made_sizes ED) QD
theorem ok_made_sizes (F : Fx P K mg base T CL) : FnOk P w K mg base (L2.CX P w) 5 F.a_made_sizes F.F_made_sizes.fd ["thing"] (spD K T CL sp_made_sizes) :=
  fn_okL (k := 4) F.F_made_sizes sc_made_sizes rfl (fun _ _ _ h => h.1) (fun _ _ _ h => h.2) fun A outer s H E Hb Φ ads ED hr tk => (dss_cons (ds_set (i := 1) sc_made_sizes.nd (de_call (ok_wrong_size F) (hr.mono (by decide)) (by rfl) F.g_wrong_size F.F_wrong_size.kp (bd_wrong_size F) (da_cons (de_v 0) da_nil))) (dss_cons (ds_if (dt_cmp c_nis (de_v 1) de_non) (dss_one (ds_raise rfl tk (rz_BadSizes F) (hr.mono (by decide)) (by rfl) (da_cons (de_v 1) da_nil))) dss_nil) (dss_one (ds_ret (de_v 0)))))
def td_wrong_worth (ED : Nat → D → Prop) : DTS := (dSeq (dIfS (dOr (dNot (dTru (dIsi .tuple (dV 1)))) (dCmpT neQ (dUn lenD (dV 1)) (dUn lenD (dV 0)))) (dRet (dUn negD (dC (.int 1)))) dNext) (dSeq (dFor (iEnm (dV 1)) (gTp 2 (gsCons (gNm 2) (gsCons (gNm 3) gsNil))) (dIfS (dNot (dTru (dCall sp_is_below ED0 (dCons (dV 3) (dCons (dOp ixD (dV 0) (dV 2)) dNil))))) (dRet (dV 2)) dNext)) (dRet (dC .non))))
def sp_wrong_worth : DSp := fun args QD ED => args.length = 2 ∧ bodyQ args 2 (td_wrong_worth ED) QD
theorem ok_wrong_worth (F : Fx P K mg base T CL) : FnOk P w K mg base (L2.CX P w) 3 F.a_wrong_worth F.F_wrong_worth.fd ["sizes", "thing"] (spD K T CL sp_wrong_worth) :=
  fn_okL (k := 2) F.F_wrong_worth sc_wrong_worth rfl (fun _ _ _ h => h.1) (fun _ _ _ h => h.2) fun A outer s H E Hb Φ ads ED hr tk => (dss_cons (ds_if (dt_w (dw_or (dt_not (dt_e (de_isi .tuple (by rfl) F.n_isinstance (by rfl) F.n_tuple (by decide +kernel) (de_v 1)))) (dw_or1 (dt_cmp (c_ne hr.units) (de_b1 o_len (by rfl) F.n_len (by decide +kernel) (de_v 1)) (de_b1 o_len (by rfl) F.n_len (by decide +kernel) (de_v 0)))))) (dss_one (ds_ret (de_neg de_int))) dss_nil) (dss_cons (ds_for (passes_of rfl) rfl (di_enum (by rfl) F.n_enumerate (de_v 1)) (dg_t rfl (dgs_cons (dg_n 2 sc_wrong_worth.nd) (dgs_cons (dg_n 3 sc_wrong_worth.nd) dgs_nil))) (dss_one (ds_if (dt_not (dt_e (de_call (ok_is_below F) (hr.mono (by decide)) (by rfl) F.g_is_below F.F_is_below.kp (bd_is_below F) (da_cons (de_v 3) (da_cons (de_ix (de_v 0) (de_v 2)) da_nil))))) (dss_one (ds_ret (de_v 2))) dss_nil))) (dss_one (ds_ret de_non))))
def td_is_page (ED : Nat → D → Prop) : DTS := (dRet (dAndV (dCall sp_is_sizes ED0 (dCons (dV 0) dNil)) (dCmp isQ (dCall sp_wrong_worth ED0 (dCons (dV 0) (dCons (dV 1) dNil))) (dC .non))))
def sp_is_page : DSp := fun args QD ED => args.length = 2 ∧ bodyQ args 0 (td_is_page ED) QD
theorem ok_is_page (F : Fx P K mg base T CL) : FnOk P w K mg base (L2.CX P w) 4 F.a_is_page F.F_is_page.fd ["sizes", "thing"] (spD K T CL sp_is_page) :=
  fn_okL (k := 3) F.F_is_page sc_is_page rfl (fun _ _ _ h => h.1) (fun _ _ _ h => h.2) fun A outer s H E Hb Φ ads ED hr tk => (dss_one (ds_ret (de_and (de_call (ok_is_sizes F) (hr.mono (by decide)) (by rfl) F.g_is_sizes F.F_is_sizes.kp (bd_is_sizes F) (da_cons (de_v 0) da_nil)) (de_one (de_cmp c_is (de_call (ok_wrong_worth F) (hr.mono (by decide)) (by rfl) F.g_wrong_worth F.F_wrong_worth.kp (bd_wrong_worth F) (da_cons (de_v 0) (da_cons (de_v 1) da_nil))) de_non)))))
def td_made_page (ED : Nat → D → Prop) : DTS := (dSeq (dSet 2 (dCall sp_wrong_worth ED0 (dCons (dCall sp_made_sizes ED (dCons (dV 0) dNil)) (dCons (dV 1) dNil)))) (dSeq (dIfS (dCmpT nisQ (dV 2) (dC .non)) (dRaise 2 ED (dCons (dV 2) dNil)) dNext) (dRet (dV 1))))
def sp_made_page : DSp := fun args QD ED => args.length = 2 ∧ bodyQ args 1 (td_made_page ED) QD
theorem ok_made_page (F : Fx P K mg base T CL) : FnOk P w K mg base (L2.CX P w) 8 F.a_made_page F.F_made_page.fd ["sizes", "thing"] (spD K T CL sp_made_page) :=
  fn_okL (k := 7) F.F_made_page sc_made_page rfl (fun _ _ _ h => h.1) (fun _ _ _ h => h.2) fun A outer s H E Hb Φ ads ED hr tk => (dss_cons (ds_set (i := 2) sc_made_page.nd (de_call (ok_wrong_worth F) (hr.mono (by decide)) (by rfl) F.g_wrong_worth F.F_wrong_worth.kp (bd_wrong_worth F) (da_cons (de_callX tk (ok_made_sizes F) (hr.mono (by decide)) (by rfl) F.g_made_sizes F.F_made_sizes.kp (bd_made_sizes F) (da_cons (de_v 0) da_nil)) (da_cons (de_v 1) da_nil)))) (dss_cons (ds_if (dt_cmp c_nis (de_v 2) de_non) (dss_one (ds_raise rfl tk (rz_BadPage F) (hr.mono (by decide)) (by rfl) (da_cons (de_v 2) da_nil))) dss_nil) (dss_one (ds_ret (de_v 1)))))
def td_pool (ED : Nat → D → Prop) : DTS := (dSeq (dAsg (dTup (dCons (dC (.int 0)) (dCons (dC (.int 7)) dNil))) (gTp 2 (gsCons (gNm 1) (gsCons (gNm 2) gsNil)))) (dSeq (dFor (iRng (dUn lenD (dV 0))) (gNm 3) (dSeq (dSet 4 (dMm maxI (dUn intD (dOp ixD (dV 0) (dV 3))) (dUn intD (dOp subD (dUn negD (dC (.int 1))) (dOp ixD (dV 0) (dV 3)))))) (dSeq (dSet 2 (dOp modD (dUn intD (dOp addD (dOp addD (dOp mulD (dV 2) (dC (.int 48271))) (dOp modD (dV 4) (dC (.int 2147483629)))) (dC (.int 11)))) (dC (.int 2147483647)))) (dSet 1 (dIf (dAnd (dCmpT geD (dV 4) (dOp powD (dC (.int 10)) (dC (.int 12)))) (dCmpT ltD (dV 1) (dOp powD (dC (.int 10)) (dC (.int 60))))) (dUn intD (dOp addD (dOp mulD (dV 1) (dOp powD (dC (.int 10)) (dC (.int 60)))) (dOp modD (dV 4) (dOp powD (dC (.int 10)) (dC (.int 60)))))) (dV 1)))))) (dRet (dLst (dCons (dV 1) (dCons (dV 2) (dCons (dC (.int 0)) dNil)))))))
def sp_pool : DSp := fun args QD ED => args.length = 1 ∧ bodyQ args 4 (td_pool ED) QD
theorem ok_pool (F : Fx P K mg base T CL) : FnOk P w K mg base (L2.CX P w) 1 F.a_pool F.F_pool.fd ["script"] (spD K T CL sp_pool) :=
  fn_okL (k := 0) F.F_pool sc_pool rfl (fun _ _ _ h => h.1) (fun _ _ _ h => h.2) fun A outer s H E Hb Φ ads ED hr tk => (dss_cons (ds_asgC (de_tup (da_cons de_int (da_cons de_int da_nil))) (dg_t rfl (dgs_cons (dg_n 1 sc_pool.nd) (dgs_cons (dg_n 2 sc_pool.nd) dgs_nil)))) (dss_cons (ds_for (passes_of rfl) rfl (di_rng (by rfl) F.n_range (de_b1 o_len (by rfl) F.n_len (by decide +kernel) (de_v 0))) (dg_n 3 sc_pool.nd) (dss_cons (ds_set (i := 4) sc_pool.nd (de_mm (f := maxI) (call_max2 rfl) (by rfl) F.n_max (by decide +kernel) (de_t1 o_int (by rfl) F.n_int (by decide +kernel) (de_ix (de_v 0) (de_v 3))) (de_t1 o_int (by rfl) F.n_int (by decide +kernel) (de_op o_sub (de_neg de_int) (de_ix (de_v 0) (de_v 3)))))) (dss_cons (ds_set (i := 2) sc_pool.nd (de_op o_mod (de_t1 o_int (by rfl) F.n_int (by decide +kernel) (de_op o_add (de_op o_add (de_op o_mul (de_v 2) de_int) (de_op o_mod (de_v 4) de_int)) de_int)) de_int)) (dss_one (ds_set (i := 1) sc_pool.nd (de_if (dt_w (dw_and (dt_cmp c_ge (de_v 4) (de_op o_pow de_int de_int)) (dw_and1 (dt_cmp c_lt (de_v 1) (de_op o_pow de_int de_int))))) (de_t1 o_int (by rfl) F.n_int (by decide +kernel) (de_op o_add (de_op o_mul (de_v 1) (de_op o_pow de_int de_int)) (de_op o_mod (de_v 4) (de_op o_pow de_int de_int)))) (de_v 1))))))) (dss_one (ds_ret (de_lst (da_cons (de_v 1) (da_cons (de_v 2) (da_cons de_int da_nil))))))))
def td_take (ED : Nat → D → Prop) : DTS := (dSeq (dIfS (dCmpT gtD (dOp ixD (dV 0) (dC (.int 0))) (dC (.int 0))) (dSeq (dSet 2 (dOp modD (dUn intD (dOp ixD (dV 0) (dC (.int 0)))) (dV 1))) (dSeq (dPut 0 (dC (.int 0)) (dOp fdivD (dOp ixD (dV 0) (dC (.int 0))) (dV 1))) (dRet (dV 2)))) dNext) (dSeq (dPut 0 (dC (.int 2)) (dOp addD (dOp ixD (dV 0) (dC (.int 2))) (dC (.int 1)))) (dSeq (dPut 0 (dC (.int 1)) (dOp modD (dUn intD (dOp addD (dOp addD (dOp mulD (dOp ixD (dV 0) (dC (.int 1))) (dC (.int 39373))) (dOp mulD (dC (.int 7919)) (dOp ixD (dV 0) (dC (.int 2))))) (dC (.int 7)))) (dC (.int 2147483647)))) (dRet (dOp modD (dUn intD (dOp fdivD (dOp modD (dUn intD (dOp mulD (dOp ixD (dV 0) (dC (.int 1))) (dOp ixD (dV 0) (dC (.int 1))))) (dC (.int 2147483629))) (dC (.int 32)))) (dV 1))))))
def sp_take : DSp := fun args QD ED => args.length = 2 ∧ bodyQ args 1 (td_take ED) QD
theorem ok_take (F : Fx P K mg base T CL) : FnOk P w K mg base (L2.CX P w) 1 F.a_take F.F_take.fd ["jar", "top"] (spD K T CL sp_take) :=
  fn_okL (k := 0) F.F_take sc_take rfl (fun _ _ _ h => h.1) (fun _ _ _ h => h.2) fun A outer s H E Hb Φ ads ED hr tk => (dss_cons (ds_if (dt_cmp c_gt (de_ix (de_v 0) de_int) de_int) (dss_cons (ds_set (i := 2) sc_take.nd (de_op o_mod (de_t1 o_int (by rfl) F.n_int (by decide +kernel) (de_ix (de_v 0) de_int)) (de_v 1))) (dss_cons (ds_put 0 de_int (de_op o_fdiv (de_ix (de_v 0) de_int) (de_v 1))) (dss_one (ds_ret (de_v 2))))) dss_nil) (dss_cons (ds_put 0 de_int (de_op o_add (de_ix (de_v 0) de_int) de_int)) (dss_cons (ds_put 0 de_int (de_op o_mod (de_t1 o_int (by rfl) F.n_int (by decide +kernel) (de_op o_add (de_op o_add (de_op o_mul (de_ix (de_v 0) de_int) de_int) (de_op o_mul de_int (de_ix (de_v 0) de_int))) de_int)) de_int)) (dss_one (ds_ret (de_op o_mod (de_t1 o_int (by rfl) F.n_int (by decide +kernel) (de_op o_fdiv (de_op o_mod (de_t1 o_int (by rfl) F.n_int (by decide +kernel) (de_op o_mul (de_ix (de_v 0) de_int) (de_ix (de_v 0) de_int))) de_int) de_int)) (de_v 1)))))))
def td_one (ED : Nat → D → Prop) : DTS := (dRet (dOp ixD (dV 1) (dCall sp_take ED0 (dBor 0 (dCons (dUn lenD (dV 1)) dNil)))))
def sp_one : DSp := fun args QD ED => args.length = 2 ∧ bodyQ args 0 (td_one ED) QD
theorem ok_one (F : Fx P K mg base T CL) : FnOk P w K mg base (L2.CX P w) 2 F.a_one F.F_one.fd ["jar", "things"] (spD K T CL sp_one) :=
  fn_okL (k := 1) F.F_one sc_one rfl (fun _ _ _ h => h.1) (fun _ _ _ h => h.2) fun A outer s H E Hb Φ ads ED hr tk => (dss_one (ds_ret (de_ix (de_v 1) (de_call (ok_take F) (hr.mono (by decide)) (by rfl) F.g_take F.F_take.kp (bd_take F) (da_bor 0 (da_cons (de_b1 o_len (by rfl) F.n_len (by decide +kernel) (de_v 1)) da_nil))))))
def td_yq_is_whole (ED : Nat → D → Prop) : DTS := (dRet (dAndV (dIsi .int (dV 0)) (dNotV (dIsi .bool (dV 0)))))
def sp_yq_is_whole : DSp := fun args QD ED => args.length = 1 ∧ bodyQ args 0 (td_yq_is_whole ED) QD
theorem ok_yq_is_whole (F : Fx P K mg base T CL) : FnOk P w K mg base (L2.CX P w) 1 F.a_yq_is_whole F.F_yq_is_whole.fd ["thing"] (spD K T CL sp_yq_is_whole) :=
  fn_okL (k := 0) F.F_yq_is_whole sc_yq_is_whole rfl (fun _ _ _ h => h.1) (fun _ _ _ h => h.2) fun A outer s H E Hb Φ ads ED hr tk => (dss_one (ds_ret (de_and (de_isi .int (by rfl) F.n_isinstance (by rfl) F.n_int (by decide +kernel) (de_v 0)) (de_one (de_not (de_isi .bool (by rfl) F.n_isinstance (by rfl) F.n_bool (by decide +kernel) (de_v 0)))))))
def td_yq_same (sR : DSp) (ED : Nat → D → Prop) : DTS := (dSeq (dIfS (dCmpT isQ (dV 1) (dC .non)) (dRet (dCmp isQ (dV 0) (dC .non))) dNext) (dSeq (dIfS (dTru (dIsi .bool (dV 1))) (dRet (dIf (dTru (dV 1)) (dCmp isQ (dV 0) (dC (.bl true))) (dCmp isQ (dV 0) (dC (.bl false))))) dNext) (dSeq (dIfS (dTru (dIsi .int (dV 1))) (dRet (dAndV (dCall sp_yq_is_whole ED0 (dCons (dV 0) dNil)) (dCmp eqQ (dV 0) (dV 1)))) dNext) (dSeq (dIfS (dTru (dIsi .str (dV 1))) (dRet (dAndV (dIsi .str (dV 0)) (dCmp eqQ (dV 0) (dV 1)))) dNext) (dSeq (dIfS (dAnd (dNot (dTru (dIsi .tuple (dV 1)))) (dNot (dTru (dIsi .list (dV 1))))) (dRet (dUn boolD (dCmp eqQ (dV 0) (dV 1)))) dNext) (dSeq (dIfS (dCmpT neQ (dIsi .tuple (dV 1)) (dIsi .tuple (dV 0))) (dRet (dC (.bl false))) dNext) (dSeq (dIfS (dCmpT neQ (dIsi .list (dV 1)) (dIsi .list (dV 0))) (dRet (dC (.bl false))) dNext) (dSeq (dIfS (dCmpT neQ (dUn lenD (dV 0)) (dUn lenD (dV 1))) (dRet (dC (.bl false))) dNext) (dSeq (dFor (iRng (dUn lenD (dV 1))) (gNm 2) (dIfS (dNot (dTru (dCall sR ED0 (dCons (dOp ixD (dV 0) (dV 2)) (dCons (dOp ixD (dV 1) (dV 2)) dNil))))) (dRet (dC (.bl false))) dNext)) (dRet (dC (.bl true))))))))))))
def sp_yq_same : Nat → DSp
  | 0 => fun _ _ _ => False
  | k + 1 => fun args QD ED => args.length = 2 ∧ bodyQ args 1 (td_yq_same (sp_yq_same k) ED) QD
theorem ok_yq_same (F : Fx P K mg base T CL) : ∀ k, FnOk P w K mg base (L2.CX P w) (2 + k) F.a_yq_same F.F_yq_same.fd ["heard_one", "owed"] (spD K T CL (sp_yq_same k))
  | 0 => ⟨fun vs H Q E h => (by obtain ⟨_, _, _, _, _, _, _, _, _, _, z, _⟩ := h; exact z.elim), fun _ _ _ _ _ _ _ _ _ _ _ _ _ h => (by obtain ⟨_, _, _, _, _, _, _, _, _, _, z, _⟩ := h; exact z.elim)⟩
  | k + 1 => by
    have G := ok_yq_same F k
    exact fn_okL (k := 2 + k) F.F_yq_same sc_yq_same rfl (fun _ _ _ h => h.1) (fun _ _ _ h => h.2) fun A outer s H E Hb Φ ads ED hr tk => (dss_cons (ds_if (dt_cmp c_is (de_v 1) de_non) (dss_one (ds_ret (de_cmp c_is (de_v 0) de_non))) dss_nil) (dss_cons (ds_if (dt_e (de_isi .bool (by rfl) F.n_isinstance (by rfl) F.n_bool (by decide +kernel) (de_v 1))) (dss_one (ds_ret (de_if (dt_e (de_v 1)) (de_cmp c_is (de_v 0) de_bl) (de_cmp c_is (de_v 0) de_bl)))) dss_nil) (dss_cons (ds_if (dt_e (de_isi .int (by rfl) F.n_isinstance (by rfl) F.n_int (by decide +kernel) (de_v 1))) (dss_one (ds_ret (de_and (de_call (ok_yq_is_whole F) (hr.mono (by omega)) (by rfl) F.g_yq_is_whole F.F_yq_is_whole.kp (bd_yq_is_whole F) (da_cons (de_v 0) da_nil)) (de_one (de_cmp (c_eq hr.units) (de_v 0) (de_v 1)))))) dss_nil) (dss_cons (ds_if (dt_e (de_isi .str (by rfl) F.n_isinstance (by rfl) F.n_str (by decide +kernel) (de_v 1))) (dss_one (ds_ret (de_and (de_isi .str (by rfl) F.n_isinstance (by rfl) F.n_str (by decide +kernel) (de_v 0)) (de_one (de_cmp (c_eq hr.units) (de_v 0) (de_v 1)))))) dss_nil) (dss_cons (ds_if (dt_w (dw_and (dt_not (dt_e (de_isi .tuple (by rfl) F.n_isinstance (by rfl) F.n_tuple (by decide +kernel) (de_v 1)))) (dw_and1 (dt_not (dt_e (de_isi .list (by rfl) F.n_isinstance (by rfl) F.n_list (by decide +kernel) (de_v 1))))))) (dss_one (ds_ret (de_t1 o_bool (by rfl) F.n_bool (by decide +kernel) (de_cmp (c_eq hr.units) (de_v 0) (de_v 1))))) dss_nil) (dss_cons (ds_if (dt_cmp (c_ne hr.units) (de_isi .tuple (by rfl) F.n_isinstance (by rfl) F.n_tuple (by decide +kernel) (de_v 1)) (de_isi .tuple (by rfl) F.n_isinstance (by rfl) F.n_tuple (by decide +kernel) (de_v 0))) (dss_one (ds_ret de_bl)) dss_nil) (dss_cons (ds_if (dt_cmp (c_ne hr.units) (de_isi .list (by rfl) F.n_isinstance (by rfl) F.n_list (by decide +kernel) (de_v 1)) (de_isi .list (by rfl) F.n_isinstance (by rfl) F.n_list (by decide +kernel) (de_v 0))) (dss_one (ds_ret de_bl)) dss_nil) (dss_cons (ds_if (dt_cmp (c_ne hr.units) (de_b1 o_len (by rfl) F.n_len (by decide +kernel) (de_v 0)) (de_b1 o_len (by rfl) F.n_len (by decide +kernel) (de_v 1))) (dss_one (ds_ret de_bl)) dss_nil) (dss_cons (ds_for (passes_of rfl) rfl (di_rng (by rfl) F.n_range (de_b1 o_len (by rfl) F.n_len (by decide +kernel) (de_v 1))) (dg_n 2 sc_yq_same.nd) (dss_one (ds_if (dt_not (dt_e (de_call G (hr.mono (by omega)) (by rfl) F.g_yq_same F.F_yq_same.kp (bd_yq_same F) (da_cons (de_ix (de_v 0) (de_v 2)) (da_cons (de_ix (de_v 1) (de_v 2)) da_nil))))) (dss_one (ds_ret de_bl)) dss_nil))) (dss_one (ds_ret de_bl)))))))))))
def td_zc_sizes_due (ED : Nat → D → Prop) : DTS := (dSeq (dIfS (dOr (dNot (dTru (dIsi .tuple (dV 0)))) (dNot (dChainT leD leD (dC (.int 1)) (dUn lenD (dV 0)) (dC (.int 24))))) (dRet (dTup (dCons (dC (.str "BadSizes")) (dCons (dUn negD (dC (.int 1))) dNil)))) dNext) (dSeq (dSet 1 (dLc (iRng (dUn lenD (dV 0))) (gNm 2) (dOr (dNot (dTru (dCall sp_yq_is_whole ED0 (dCons (dOp ixD (dV 0) (dV 2)) dNil)))) (dNot (dChainT leD leD (dC (.int 1)) (dOp ixD (dV 0) (dV 2)) (dC (.int 6))))) (dV 2) [2])) (dRet (dIf (dCmpT neQ (dV 1) (dLst dNil)) (dTup (dCons (dC (.str "BadSizes")) (dCons (dOp ixD (dV 1) (dC (.int 0))) dNil))) (dC .non)))))
def sp_zc_sizes_due : DSp := fun args QD ED => args.length = 1 ∧ bodyQ args 2 (td_zc_sizes_due ED) QD
theorem ok_zc_sizes_due (F : Fx P K mg base T CL) : FnOk P w K mg base (L2.CX P w) 2 F.a_zc_sizes_due F.F_zc_sizes_due.fd ["thing"] (spD K T CL sp_zc_sizes_due) :=
  fn_okL (k := 1) F.F_zc_sizes_due sc_zc_sizes_due rfl (fun _ _ _ h => h.1) (fun _ _ _ h => h.2) fun A outer s H E Hb Φ ads ED hr tk => (dss_cons (ds_if (dt_w (dw_or (dt_not (dt_e (de_isi .tuple (by rfl) F.n_isinstance (by rfl) F.n_tuple (by decide +kernel) (de_v 0)))) (dw_or1 (dt_not (dt_chain c_le c_le de_int (de_b1 o_len (by rfl) F.n_len (by decide +kernel) (de_v 0)) de_int))))) (dss_one (ds_ret (de_tup (da_cons de_str (da_cons (de_neg de_int) da_nil))))) dss_nil) (dss_cons (ds_setLc (i := 1) [("at", 2)] rfl sc_zc_sizes_due.nd (di_rng (by rfl) F.n_range (de_b1 o_len (by rfl) F.n_len (by decide +kernel) (de_v 0))) (blkOk_by (N := ["thing", "bad", "at"]) (sc := defScope s_zc_sizes_due) (by decide +kernel)) (fun _ _ _ _ _ => (dg_n 2 sc_zc_sizes_due.nd)) (fun _ _ _ _ _ => (dts_one (dt_w (dw_or (dt_not (dt_e (de_call (ok_yq_is_whole F) (hr.mono (by decide)) (by rfl) F.g_yq_is_whole F.F_yq_is_whole.kp (bd_yq_is_whole F) (da_cons (de_ix (de_v 0) (de_v 2)) da_nil)))) (dw_or1 (dt_not (dt_chain c_le c_le de_int (de_ix (de_v 0) (de_v 2)) de_int))))))) (fun _ _ _ _ _ => (de_v 2)) (sw_true rfl rfl rfl (by decide +kernel))) (dss_one (ds_ret (de_if (dt_cmp (c_ne hr.units) (de_v 1) (de_lst da_nil)) (de_tup (da_cons de_str (da_cons (de_ix (de_v 1) de_int) da_nil))) de_non)))))
def td_zc_page_due (ED : Nat → D → Prop) : DTS := (dSeq (dIfS (dOr (dNot (dTru (dIsi .tuple (dV 1)))) (dCmpT neQ (dUn lenD (dV 1)) (dUn lenD (dV 0)))) (dRet (dTup (dCons (dC (.str "BadPage")) (dCons (dUn negD (dC (.int 1))) dNil)))) dNext) (dSeq (dSet 2 (dLc (iRng (dUn lenD (dV 0))) (gNm 3) (dOr (dNot (dTru (dCall sp_yq_is_whole ED0 (dCons (dOp ixD (dV 1) (dV 3)) dNil)))) (dNot (dChainT leD ltD (dC (.int 0)) (dOp ixD (dV 1) (dV 3)) (dOp ixD (dV 0) (dV 3))))) (dV 3) [3])) (dRet (dIf (dCmpT neQ (dV 2) (dLst dNil)) (dTup (dCons (dC (.str "BadPage")) (dCons (dOp ixD (dV 2) (dC (.int 0))) dNil))) (dC .non)))))
def sp_zc_page_due : DSp := fun args QD ED => args.length = 2 ∧ bodyQ args 2 (td_zc_page_due ED) QD
theorem ok_zc_page_due (F : Fx P K mg base T CL) : FnOk P w K mg base (L2.CX P w) 2 F.a_zc_page_due F.F_zc_page_due.fd ["sizes", "thing"] (spD K T CL sp_zc_page_due) :=
  fn_okL (k := 1) F.F_zc_page_due sc_zc_page_due rfl (fun _ _ _ h => h.1) (fun _ _ _ h => h.2) fun A outer s H E Hb Φ ads ED hr tk => (dss_cons (ds_if (dt_w (dw_or (dt_not (dt_e (de_isi .tuple (by rfl) F.n_isinstance (by rfl) F.n_tuple (by decide +kernel) (de_v 1)))) (dw_or1 (dt_cmp (c_ne hr.units) (de_b1 o_len (by rfl) F.n_len (by decide +kernel) (de_v 1)) (de_b1 o_len (by rfl) F.n_len (by decide +kernel) (de_v 0)))))) (dss_one (ds_ret (de_tup (da_cons de_str (da_cons (de_neg de_int) da_nil))))) dss_nil) (dss_cons (ds_setLc (i := 2) [("at", 3)] rfl sc_zc_page_due.nd (di_rng (by rfl) F.n_range (de_b1 o_len (by rfl) F.n_len (by decide +kernel) (de_v 0))) (blkOk_by (N := ["sizes", "thing", "bad", "at"]) (sc := defScope s_zc_page_due) (by decide +kernel)) (fun _ _ _ _ _ => (dg_n 3 sc_zc_page_due.nd)) (fun _ _ _ _ _ => (dts_one (dt_w (dw_or (dt_not (dt_e (de_call (ok_yq_is_whole F) (hr.mono (by decide)) (by rfl) F.g_yq_is_whole F.F_yq_is_whole.kp (bd_yq_is_whole F) (da_cons (de_ix (de_v 1) (de_v 3)) da_nil)))) (dw_or1 (dt_not (dt_chain c_le c_lt de_int (de_ix (de_v 1) (de_v 3)) (de_ix (de_v 0) (de_v 3))))))))) (fun _ _ _ _ _ => (de_v 3)) (sw_true rfl rfl rfl (by decide +kernel))) (dss_one (ds_ret (de_if (dt_cmp (c_ne hr.units) (de_v 2) (de_lst da_nil)) (de_tup (da_cons de_str (da_cons (de_ix (de_v 2) de_int) da_nil))) de_non)))))
def td_zc_sizes (ED : Nat → D → Prop) : DTS := (dSeq (dSet 2 (dCall sp_take ED0 (dBor 0 (dCons (dC (.int 3)) dNil)))) (dRet (dUn tupD (dLc (iRng (dV 1)) (gNm 3) dYes (dCall sp_one ED0 (dBor 0 (dCons (dOp ixD (dLst (dCons (dLst (dCons (dC (.int 1)) (dCons (dC (.int 2)) (dCons (dC (.int 3)) (dCons (dC (.int 4)) (dCons (dC (.int 5)) (dCons (dC (.int 6)) dNil))))))) (dCons (dLst (dCons (dC (.int 2)) dNil)) (dCons (dLst (dCons (dC (.int 1)) (dCons (dC (.int 2)) (dCons (dC (.int 2)) (dCons (dC (.int 3)) dNil))))) dNil)))) (dV 2)) dNil))) [3]))))
def sp_zc_sizes : DSp := fun args QD ED => args.length = 2 ∧ bodyQ args 2 (td_zc_sizes ED) QD
theorem ok_zc_sizes (F : Fx P K mg base T CL) : FnOk P w K mg base (L2.CX P w) 3 F.a_zc_sizes F.F_zc_sizes.fd ["jar", "n"] (spD K T CL sp_zc_sizes) :=
  fn_okL (k := 2) F.F_zc_sizes sc_zc_sizes rfl (fun _ _ _ h => h.1) (fun _ _ _ h => h.2) fun A outer s H E Hb Φ ads ED hr tk => (dss_cons (ds_set (i := 2) sc_zc_sizes.nd (de_call (ok_take F) (hr.mono (by decide)) (by rfl) F.g_take F.F_take.kp (bd_take F) (da_bor 0 (da_cons de_int da_nil)))) (dss_one (ds_ret (de_t1 o_tuple (by rfl) F.n_tuple (by decide +kernel) (de_lc [("at", 3)] rfl sc_zc_sizes.nd (di_rng (by rfl) F.n_range (de_v 1)) (blkOk_by (N := ["jar", "n", "sort", "at"]) (sc := defScope s_zc_sizes) (by decide +kernel)) (fun _ _ _ _ _ => (dg_n 3 sc_zc_sizes.nd)) (fun _ _ _ _ _ => dts_nil) (fun _ _ _ _ _ => (de_call (ok_one F) (hr.mono (by decide)) (by rfl) F.g_one F.F_one.kp (bd_one F) (da_bor 0 (da_cons (de_ix (de_lst (da_cons (de_lst (da_cons de_int (da_cons de_int (da_cons de_int (da_cons de_int (da_cons de_int (da_cons de_int da_nil))))))) (da_cons (de_lst (da_cons de_int da_nil)) (da_cons (de_lst (da_cons de_int (da_cons de_int (da_cons de_int (da_cons de_int da_nil))))) da_nil)))) (de_v 2)) da_nil)))))))))
def td_zc_page (ED : Nat → D → Prop) : DTS := (dRet (dUn tupD (dLc (iSeq (dV 1)) (gNm 2) dYes (dCall sp_take ED0 (dBor 0 (dCons (dV 2) dNil))) [2])))
def sp_zc_page : DSp := fun args QD ED => args.length = 2 ∧ bodyQ args 1 (td_zc_page ED) QD
theorem ok_zc_page (F : Fx P K mg base T CL) : FnOk P w K mg base (L2.CX P w) 2 F.a_zc_page F.F_zc_page.fd ["jar", "sizes"] (spD K T CL sp_zc_page) :=
  fn_okL (k := 1) F.F_zc_page sc_zc_page rfl (fun _ _ _ h => h.1) (fun _ _ _ h => h.2) fun A outer s H E Hb Φ ads ED hr tk => (dss_one (ds_ret (de_t1 o_tuple (by rfl) F.n_tuple (by decide +kernel) (de_lc [("size", 2)] rfl sc_zc_page.nd (di_seq (de_v 1)) (blkOk_by (N := ["jar", "sizes", "size"]) (sc := defScope s_zc_page) (by decide +kernel)) (fun _ _ _ _ _ => (dg_n 2 sc_zc_page.nd)) (fun _ _ _ _ _ => dts_nil) (fun _ _ _ _ _ => (de_call (ok_take F) (hr.mono (by decide)) (by rfl) F.g_take F.F_take.kp (bd_take F) (da_bor 0 (da_cons (de_v 2) da_nil))))))))
def td_sizes_told (ED : Nat → D → Prop) : DTS := (dSeq (dSetO 1 (dLst (dCons (dHeard hs_heard (fun ED => (dCall sp_made_sizes ED (dCons (dV 0) dNil)))) dNil))) (dSeq (dDrop (dLm 1 appD (dCons (dHeard hs_heard (fun ED => (dCallKw sp_made_sizes ED 0 1 [0] dNil (dCons (dV 0) dNil)))) dNil))) (dRet (dOp addD (dV 1) (dLst (dCons (dHeard hs_heard (fun ED => (dCall sp_is_sizes ED0 (dCons (dV 0) dNil)))) dNil))))))
def sp_sizes_told : DSp := fun args QD ED => args.length = 1 ∧ bodyQ args 1 (td_sizes_told ED) QD
theorem ok_sizes_told (F : Fx P K mg base T CL) : FnOk P w K mg base (L2.CX P w) 8 F.a_sizes_told F.F_sizes_told.fd ["thing"] (spD K T CL sp_sizes_told) :=
  fn_okL (k := 7) F.F_sizes_told sc_sizes_told rfl (fun _ _ _ h => h.1) (fun _ _ _ h => h.2) fun A outer s H E Hb Φ ads ED hr tk => (dss_cons (ds_setO (i := 1) sc_sizes_told.nd (de_lst (da_cons (de_heard (k := 5) F.CO (hh_heard F) (by rfl) F.g_heard F.F_heard.kp F.F_heard.lk F.F_heard.cc (bd_heard F) sc_heard rfl (by first | exact Or.inl rfl | exact Or.inr (Or.inl rfl)) (gv_heard F rfl) F.tb_sizes_told F.code_sizes_told F.in_sizes_told F.only_sizes_told (hr.mono (by decide)) (lamS_by (by first | decide +kernel | rfl)) rfl (fun _ _ _ _ _ => rfl) (fun A2 outer2 s2 H2 E2 f2 c2 Hb Φ ED hr tk => (de_callX tk (ok_made_sizes F) (hr.mono (by decide)) (by rfl) F.g_made_sizes F.F_made_sizes.kp (bd_made_sizes F) (da_cons (de_v 0) da_nil)))) da_nil))) (dss_cons (ds_expr (de_lm 1 lm_app mt_append PySem.F.slot_list_append PySem.F.type_list_append (da_cons (de_heard (k := 5) F.CO (hh_heard F) (by rfl) F.g_heard F.F_heard.kp F.F_heard.lk F.F_heard.cc (bd_heard F) sc_heard rfl (by first | exact Or.inl rfl | exact Or.inr (Or.inl rfl)) (gv_heard F rfl) F.tb_sizes_told F.code_sizes_told F.in_sizes_told F.only_sizes_told (hr.mono (by decide)) (lamS_by (by first | decide +kernel | rfl)) rfl (fun _ _ _ _ _ => rfl) (fun A2 outer2 s2 H2 E2 f2 c2 Hb Φ ED hr tk => (de_callK0X tk (ok_made_sizes F) (hr.mono (by decide)) (by rfl) F.g_made_sizes F.F_made_sizes.kp (kb_made_sizes_0_thing F) (dk_cons (de_v 0) dk_nil)))) da_nil))) (dss_one (ds_ret (de_op o_add (de_v 1) (de_lst (da_cons (de_heard (k := 5) F.CO (hh_heard F) (by rfl) F.g_heard F.F_heard.kp F.F_heard.lk F.F_heard.cc (bd_heard F) sc_heard rfl (by first | exact Or.inl rfl | exact Or.inr (Or.inl rfl)) (gv_heard F rfl) F.tb_sizes_told F.code_sizes_told F.in_sizes_told F.only_sizes_told (hr.mono (by decide)) (lamS_by (by first | decide +kernel | rfl)) rfl (fun _ _ _ _ _ => rfl) (fun A2 outer2 s2 H2 E2 f2 c2 Hb Φ ED hr tk => (de_call (ok_is_sizes F) (hr.mono (by decide)) (by rfl) F.g_is_sizes F.F_is_sizes.kp (bd_is_sizes F) (da_cons (de_v 0) da_nil)))) da_nil)))))))
def td_page_told (ED : Nat → D → Prop) : DTS := (dSeq (dSetO 2 (dLst (dCons (dHeard hs_heard (fun ED => (dCall sp_made_page ED (dCons (dV 0) (dCons (dV 1) dNil))))) dNil))) (dSeq (dDrop (dLm 2 appD (dCons (dHeard hs_heard (fun ED => (dCallKw sp_made_page ED 0 2 [1, 0] dNil (dCons (dV 1) (dCons (dV 0) dNil))))) dNil))) (dRet (dOp addD (dV 2) (dLst (dCons (dHeard hs_heard (fun ED => (dCall sp_is_page ED0 (dCons (dV 0) (dCons (dV 1) dNil))))) dNil))))))
def sp_page_told : DSp := fun args QD ED => args.length = 2 ∧ bodyQ args 1 (td_page_told ED) QD
theorem ok_page_told (F : Fx P K mg base T CL) : FnOk P w K mg base (L2.CX P w) 11 F.a_page_told F.F_page_told.fd ["sizes", "thing"] (spD K T CL sp_page_told) :=
  fn_okL (k := 10) F.F_page_told sc_page_told rfl (fun _ _ _ h => h.1) (fun _ _ _ h => h.2) fun A outer s H E Hb Φ ads ED hr tk => (dss_cons (ds_setO (i := 2) sc_page_told.nd (de_lst (da_cons (de_heard (k := 8) F.CO (hh_heard F) (by rfl) F.g_heard F.F_heard.kp F.F_heard.lk F.F_heard.cc (bd_heard F) sc_heard rfl (by first | exact Or.inl rfl | exact Or.inr (Or.inl rfl)) (gv_heard F rfl) F.tb_page_told F.code_page_told F.in_page_told F.only_page_told (hr.mono (by decide)) (lamS_by (by first | decide +kernel | rfl)) rfl (fun _ _ _ _ _ => rfl) (fun A2 outer2 s2 H2 E2 f2 c2 Hb Φ ED hr tk => (de_callX tk (ok_made_page F) (hr.mono (by decide)) (by rfl) F.g_made_page F.F_made_page.kp (bd_made_page F) (da_cons (de_v 0) (da_cons (de_v 1) da_nil))))) da_nil))) (dss_cons (ds_expr (de_lm 2 lm_app mt_append PySem.F.slot_list_append PySem.F.type_list_append (da_cons (de_heard (k := 8) F.CO (hh_heard F) (by rfl) F.g_heard F.F_heard.kp F.F_heard.lk F.F_heard.cc (bd_heard F) sc_heard rfl (by first | exact Or.inl rfl | exact Or.inr (Or.inl rfl)) (gv_heard F rfl) F.tb_page_told F.code_page_told F.in_page_told F.only_page_told (hr.mono (by decide)) (lamS_by (by first | decide +kernel | rfl)) rfl (fun _ _ _ _ _ => rfl) (fun A2 outer2 s2 H2 E2 f2 c2 Hb Φ ED hr tk => (de_callK0X tk (ok_made_page F) (hr.mono (by decide)) (by rfl) F.g_made_page F.F_made_page.kp (kb_made_page_0_thing_sizes F) (dk_cons (de_v 1) (dk_cons (de_v 0) dk_nil))))) da_nil))) (dss_one (ds_ret (de_op o_add (de_v 2) (de_lst (da_cons (de_heard (k := 8) F.CO (hh_heard F) (by rfl) F.g_heard F.F_heard.kp F.F_heard.lk F.F_heard.cc (bd_heard F) sc_heard rfl (by first | exact Or.inl rfl | exact Or.inr (Or.inl rfl)) (gv_heard F rfl) F.tb_page_told F.code_page_told F.in_page_told F.only_page_told (hr.mono (by decide)) (lamS_by (by first | decide +kernel | rfl)) rfl (fun _ _ _ _ _ => rfl) (fun A2 outer2 s2 H2 E2 f2 c2 Hb Φ ED hr tk => (de_call (ok_is_page F) (hr.mono (by decide)) (by rfl) F.g_is_page F.F_is_page.kp (bd_is_page F) (da_cons (de_v 0) (da_cons (de_v 1) da_nil))))) da_nil)))))))
def td_owed (ED : Nat → D → Prop) : DTS := (dRet (dIf (dCmpT isQ (dV 0) (dC .non)) (dOp addD (dOp mulD (dLst (dCons (dTup (dCons (dC (.str "told")) (dCons (dV 1) dNil))) dNil)) (dC (.int 2))) (dLst (dCons (dTup (dCons (dC (.str "told")) (dCons (dC (.bl true)) dNil))) dNil))) (dOp addD (dOp mulD (dLst (dCons (dV 0) dNil)) (dC (.int 2))) (dLst (dCons (dTup (dCons (dC (.str "told")) (dCons (dC (.bl false)) dNil))) dNil)))))
def sp_owed : DSp := fun args QD ED => args.length = 2 ∧ bodyQ args 0 (td_owed ED) QD
theorem ok_owed (F : Fx P K mg base T CL) : FnOk P w K mg base (L2.CX P w) 1 F.a_owed F.F_owed.fd ["due", "thing"] (spD K T CL sp_owed) :=
  fn_okL (k := 0) F.F_owed sc_owed rfl (fun _ _ _ h => h.1) (fun _ _ _ h => h.2) fun A outer s H E Hb Φ ads ED hr tk => (dss_one (ds_ret (de_if (dt_cmp c_is (de_v 0) de_non) (de_op o_add (de_op o_mul (de_lst (da_cons (de_tup (da_cons de_str (da_cons (de_v 1) da_nil))) da_nil)) de_int) (de_lst (da_cons (de_tup (da_cons de_str (da_cons de_bl da_nil))) da_nil))) (de_op o_add (de_op o_mul (de_lst (da_cons (de_v 0) da_nil)) de_int) (de_lst (da_cons (de_tup (da_cons de_str (da_cons de_bl da_nil))) da_nil))))))
def td_sizes_right (ED : Nat → D → Prop) : DTS := (dRet (dCall (sp_yq_same 60) ED0 (dCons (dCall sp_sizes_told ED0 (dCons (dV 0) dNil)) (dCons (dCall sp_owed ED0 (dCons (dCall sp_zc_sizes_due ED0 (dCons (dV 0) dNil)) (dCons (dV 0) dNil))) dNil))))
def sp_sizes_right : DSp := fun args QD ED => args.length = 1 ∧ bodyQ args 0 (td_sizes_right ED) QD
theorem ok_sizes_right (F : Fx P K mg base T CL) : FnOk P w K mg base (L2.CX P w) 63 F.a_sizes_right F.F_sizes_right.fd ["thing"] (spD K T CL sp_sizes_right) :=
  fn_okL (k := 62) F.F_sizes_right sc_sizes_right rfl (fun _ _ _ h => h.1) (fun _ _ _ h => h.2) fun A outer s H E Hb Φ ads ED hr tk => (dss_one (ds_ret (de_call (ok_yq_same F 60) (hr.mono (by decide)) (by rfl) F.g_yq_same F.F_yq_same.kp (bd_yq_same F) (da_cons (de_call (ok_sizes_told F) (hr.mono (by decide)) (by rfl) F.g_sizes_told F.F_sizes_told.kp (bd_sizes_told F) (da_cons (de_v 0) da_nil)) (da_cons (de_call (ok_owed F) (hr.mono (by decide)) (by rfl) F.g_owed F.F_owed.kp (bd_owed F) (da_cons (de_call (ok_zc_sizes_due F) (hr.mono (by decide)) (by rfl) F.g_zc_sizes_due F.F_zc_sizes_due.kp (bd_zc_sizes_due F) (da_cons (de_v 0) da_nil)) (da_cons (de_v 0) da_nil))) da_nil)))))
def td_page_right (ED : Nat → D → Prop) : DTS := (dSeq (dSet 2 (dCall sp_zc_sizes_due ED0 (dCons (dV 0) dNil))) (dSeq (dSet 2 (dIf (dCmpT nisQ (dV 2) (dC .non)) (dV 2) (dCall sp_zc_page_due ED0 (dCons (dV 0) (dCons (dV 1) dNil))))) (dRet (dCall (sp_yq_same 60) ED0 (dCons (dCall sp_page_told ED0 (dCons (dV 0) (dCons (dV 1) dNil))) (dCons (dCall sp_owed ED0 (dCons (dV 2) (dCons (dV 1) dNil))) dNil))))))
def sp_page_right : DSp := fun args QD ED => args.length = 2 ∧ bodyQ args 1 (td_page_right ED) QD
theorem ok_page_right (F : Fx P K mg base T CL) : FnOk P w K mg base (L2.CX P w) 63 F.a_page_right F.F_page_right.fd ["sizes", "thing"] (spD K T CL sp_page_right) :=
  fn_okL (k := 62) F.F_page_right sc_page_right rfl (fun _ _ _ h => h.1) (fun _ _ _ h => h.2) fun A outer s H E Hb Φ ads ED hr tk => (dss_cons (ds_set (i := 2) sc_page_right.nd (de_call (ok_zc_sizes_due F) (hr.mono (by decide)) (by rfl) F.g_zc_sizes_due F.F_zc_sizes_due.kp (bd_zc_sizes_due F) (da_cons (de_v 0) da_nil))) (dss_cons (ds_set (i := 2) sc_page_right.nd (de_if (dt_cmp c_nis (de_v 2) de_non) (de_v 2) (de_call (ok_zc_page_due F) (hr.mono (by decide)) (by rfl) F.g_zc_page_due F.F_zc_page_due.kp (bd_zc_page_due F) (da_cons (de_v 0) (da_cons (de_v 1) da_nil))))) (dss_one (ds_ret (de_call (ok_yq_same F 60) (hr.mono (by decide)) (by rfl) F.g_yq_same F.F_yq_same.kp (bd_yq_same F) (da_cons (de_call (ok_page_told F) (hr.mono (by decide)) (by rfl) F.g_page_told F.F_page_told.kp (bd_page_told F) (da_cons (de_v 0) (da_cons (de_v 1) da_nil))) (da_cons (de_call (ok_owed F) (hr.mono (by decide)) (by rfl) F.g_owed F.F_owed.kp (bd_owed F) (da_cons (de_v 2) (da_cons (de_v 1) da_nil))) da_nil)))))))
def td_deep (ED : Nat → D → Prop) : DTS := (dSeq (dFor (iRng (dC (.int 40))) (gNm 2) (dSet 1 (dIf (dCmpT eqQ (dCall sp_take ED0 (dBor 0 (dCons (dC (.int 2)) dNil))) (dC (.int 0))) (dTup (dCons (dV 1) dNil)) (dLst (dCons (dV 1) dNil))))) (dRet (dV 1)))
def sp_deep : DSp := fun args QD ED => args.length = 2 ∧ bodyQ args 1 (td_deep ED) QD
theorem ok_deep (F : Fx P K mg base T CL) : FnOk P w K mg base (L2.CX P w) 2 F.a_deep F.F_deep.fd ["jar", "thing"] (spD K T CL sp_deep) :=
  fn_okL (k := 1) F.F_deep sc_deep rfl (fun _ _ _ h => h.1) (fun _ _ _ h => h.2) fun A outer s H E Hb Φ ads ED hr tk => (dss_cons (ds_for (passes_of rfl) rfl (di_rng (by rfl) F.n_range de_int) (dg_n 2 sc_deep.nd) (dss_one (ds_set (i := 1) sc_deep.nd (de_if (dt_cmp (c_eq hr.units) (de_call (ok_take F) (hr.mono (by decide)) (by rfl) F.g_take F.F_take.kp (bd_take F) (da_bor 0 (da_cons de_int da_nil))) de_int) (de_tup (da_cons (de_v 1) da_nil)) (de_lst (da_cons (de_v 1) da_nil)))))) (dss_one (ds_ret (de_v 1))))
def td_bent (ED : Nat → D → Prop) : DTS := (dSeq (dSetO 3 (dLst dNil)) (dSeq (dFor (iRng (dC (.int 14))) (gNm 4) (dSeq (dSetO 5 (dUn lstD (dV 1))) (dSeq (dFor (iRng (dOp addD (dC (.int 1)) (dCall sp_take ED0 (dBor 0 (dCons (dC (.int 2)) dNil))))) (gNm 6) (dPut 5 (dCall sp_take ED0 (dBor 0 (dCons (dUn lenD (dV 5)) dNil))) (dCall sp_one ED0 (dBor 0 (dCons (dV 2) dNil))))) (dDrop (dLm 3 appD (dCons (dUn tupD (dV 5)) dNil)))))) (dRet (dOp addD (dV 3) (dLst (dCons (dOp addD (dV 1) (dTup (dCons (dC (.int 1)) dNil))) (dCons (dSl (dV 1) dNoO (dSoO (dUn negD (dC (.int 1))))) (dCons (dUn lstD (dV 1)) (dCons (dTup (dCons (dV 1) dNil)) dNil)))))))))
def sp_bent : DSp := fun args QD ED => args.length = 3 ∧ bodyQ args 4 (td_bent ED) QD
theorem ok_bent (F : Fx P K mg base T CL) : FnOk P w K mg base (L2.CX P w) 3 F.a_bent F.F_bent.fd ["jar", "row", "odds"] (spD K T CL sp_bent) :=
  fn_okL (k := 2) F.F_bent sc_bent rfl (fun _ _ _ h => h.1) (fun _ _ _ h => h.2) fun A outer s H E Hb Φ ads ED hr tk => (dss_cons (ds_setO (i := 3) sc_bent.nd (de_lst da_nil)) (dss_cons (ds_for (passes_of rfl) rfl (di_rng (by rfl) F.n_range de_int) (dg_n 4 sc_bent.nd) (dss_cons (ds_setO (i := 5) sc_bent.nd (de_t1 o_list (by rfl) F.n_list (by decide +kernel) (de_v 1))) (dss_cons (ds_for (passes_of rfl) rfl (di_rng (by rfl) F.n_range (de_op o_add de_int (de_call (ok_take F) (hr.mono (by decide)) (by rfl) F.g_take F.F_take.kp (bd_take F) (da_bor 0 (da_cons de_int da_nil))))) (dg_n 6 sc_bent.nd) (dss_one (ds_put 5 (de_call (ok_take F) (hr.mono (by decide)) (by rfl) F.g_take F.F_take.kp (bd_take F) (da_bor 0 (da_cons (de_b1 o_len (by rfl) F.n_len (by decide +kernel) (de_v 5)) da_nil))) (de_call (ok_one F) (hr.mono (by decide)) (by rfl) F.g_one F.F_one.kp (bd_one F) (da_bor 0 (da_cons (de_v 2) da_nil)))))) (dss_one (ds_expr (de_lm 3 lm_app mt_append PySem.F.slot_list_append PySem.F.type_list_append (da_cons (de_t1 o_tuple (by rfl) F.n_tuple (by decide +kernel) (de_v 5)) da_nil))))))) (dss_one (ds_ret (de_op o_add (de_v 3) (de_lst (da_cons (de_op o_add (de_v 1) (de_tup (da_cons de_int da_nil))) (da_cons (de_sl (de_v 1) do_no (do_so (de_neg de_int))) (da_cons (de_t1 o_list (by rfl) F.n_list (by decide +kernel) (de_v 1)) (da_cons (de_tup (da_cons (de_v 1) da_nil)) da_nil))))))))))
def td_things (ED : Nat → D → Prop) : DTS := (dSeq (dSet 1 (dLst (dCons (dC .non) (dCons (dC (.int 5)) (dCons (dC (.bl true)) (dCons (dC (.str "")) (dCons (dC (.str "12")) (dCons (dTup dNil) (dCons (dLst dNil) (dCons (dLst (dCons (dC (.int 1)) (dCons (dC (.int 2)) dNil))) (dCons (dTup (dCons (dTup (dCons (dC (.int 1)) (dCons (dC (.int 2)) dNil))) dNil)) (dCons (dLst (dCons (dTup (dCons (dC (.int 1)) (dCons (dC (.int 2)) dNil))) dNil)) (dCons (dOp mulD (dTup (dCons (dC (.int 1)) dNil)) (dC (.int 1000))) (dCons (dOp mulD (dLst (dCons (dTup dNil) dNil)) (dC (.int 1000))) dNil)))))))))))))) (dRet (dOp addD (dV 1) (dLst (dCons (dCall sp_deep ED0 (dBor 0 (dCons (dC (.int 1)) dNil))) (dCons (dCall sp_deep ED0 (dBor 0 (dCons (dTup dNil) dNil))) (dCons (dTup (dCons (dC .non) dNil)) (dCons (dTup (dCons (dTup dNil) dNil)) (dCons (dOp powD (dC (.int 10)) (dC (.int 30))) dNil)))))))))
def sp_things : DSp := fun args QD ED => args.length = 1 ∧ bodyQ args 1 (td_things ED) QD
theorem ok_things (F : Fx P K mg base T CL) : FnOk P w K mg base (L2.CX P w) 3 F.a_things F.F_things.fd ["jar"] (spD K T CL sp_things) :=
  fn_okL (k := 2) F.F_things sc_things rfl (fun _ _ _ h => h.1) (fun _ _ _ h => h.2) fun A outer s H E Hb Φ ads ED hr tk => (dss_cons (ds_set (i := 1) sc_things.nd (de_lst (da_cons de_non (da_cons de_int (da_cons de_bl (da_cons de_str (da_cons de_str (da_cons (de_tup da_nil) (da_cons (de_lst da_nil) (da_cons (de_lst (da_cons de_int (da_cons de_int da_nil))) (da_cons (de_tup (da_cons (de_tup (da_cons de_int (da_cons de_int da_nil))) da_nil)) (da_cons (de_lst (da_cons (de_tup (da_cons de_int (da_cons de_int da_nil))) da_nil)) (da_cons (de_op o_mul (de_tup (da_cons de_int da_nil)) de_int) (da_cons (de_op o_mul (de_lst (da_cons (de_tup da_nil) da_nil)) de_int) da_nil)))))))))))))) (dss_one (ds_ret (de_op o_add (de_v 1) (de_lst (da_cons (de_call (ok_deep F) (hr.mono (by decide)) (by rfl) F.g_deep F.F_deep.kp (bd_deep F) (da_bor 0 (da_cons de_int da_nil))) (da_cons (de_call (ok_deep F) (hr.mono (by decide)) (by rfl) F.g_deep F.F_deep.kp (bd_deep F) (da_bor 0 (da_cons (de_tup da_nil) da_nil))) (da_cons (de_tup (da_cons de_non da_nil)) (da_cons (de_tup (da_cons (de_tup da_nil) da_nil)) (da_cons (de_op o_pow de_int de_int) da_nil))))))))))
def td_world_right (ED : Nat → D → Prop) : DTS := (dSeq (dSet 2 (dCall sp_zc_sizes ED0 (dBor 0 (dCons (dV 1) dNil)))) (dSeq (dSet 3 (dLst (dCons (dC (.int 0)) (dCons (dC (.int 7)) (dCons (dUn negD (dC (.int 1))) (dCons (dC .non) (dCons (dC (.str "1")) (dCons (dC (.bl true)) (dCons (dC (.bl false)) (dCons (dTup (dCons (dC (.int 1)) dNil)) (dCons (dLst (dCons (dC (.int 1)) dNil)) (dCons (dOp powD (dC (.int 10)) (dC (.int 30))) (dCons (dC (.int 6)) (dCons (dC (.int 1)) (dCons (dCall sp_deep ED0 (dBor 0 (dCons (dC (.int 1)) dNil))) dNil))))))))))))))) (dSeq (dFor (iSeq (dOp addD (dLst (dCons (dV 2) (dCons (dOp mulD (dTup (dCons (dC (.int 1)) dNil)) (dV 1)) (dCons (dOp mulD (dTup (dCons (dC (.int 6)) dNil)) (dV 1)) dNil)))) (dCall sp_bent ED0 (dBor 0 (dCons (dV 2) (dCons (dV 3) dNil)))))) (gNm 4) (dIfS (dNot (dTru (dCall sp_sizes_right ED0 (dCons (dV 4) dNil)))) (dRet (dC (.bl false))) dNext)) (dSeq (dSet 5 (dCall sp_zc_page ED0 (dBor 0 (dCons (dV 2) dNil)))) (dSeq (dSet 6 (dLst (dCons (dUn negD (dC (.int 1))) (dCons (dC .non) (dCons (dC (.str "0")) (dCons (dC (.bl true)) (dCons (dC (.bl false)) (dCons (dTup (dCons (dC (.int 0)) dNil)) (dCons (dLst (dCons (dC (.int 0)) dNil)) (dCons (dOp powD (dC (.int 10)) (dC (.int 30))) (dCons (dC (.int 6)) (dCons (dC (.int 0)) (dCons (dCall sp_one ED0 (dBor 0 (dCons (dV 2) dNil))) (dCons (dCall sp_deep ED0 (dBor 0 (dCons (dC (.int 0)) dNil))) dNil)))))))))))))) (dSeq (dSet 7 (dUn tupD (dLc (iSeq (dV 2)) (gNm 9) dYes (dOp subD (dV 9) (dC (.int 1))) [9]))) (dSeq (dFor (iSeq (dOp addD (dOp addD (dOp addD (dLst (dCons (dV 5) (dCons (dV 7) (dCons (dOp mulD (dTup (dCons (dC (.int 0)) dNil)) (dV 1)) dNil)))) (dCall sp_bent ED0 (dBor 0 (dCons (dV 5) (dCons (dV 6) dNil))))) (dCall sp_things ED0 (dBor 0 dNil))) (dLst (dCons (dV 2) dNil)))) (gNm 4) (dIfS (dNot (dTru (dCall sp_page_right ED0 (dCons (dV 2) (dCons (dV 4) dNil))))) (dRet (dC (.bl false))) dNext)) (dSeq (dFor (iSeq (dOp addD (dCall sp_bent ED0 (dBor 0 (dCons (dV 2) (dCons (dV 3) dNil)))) (dLst (dCons (dC .non) (dCons (dTup dNil) (dCons (dLst (dCons (dC (.int 2)) dNil)) dNil)))))) (gNm 8) (dIfS (dNot (dTru (dCall sp_page_right ED0 (dCons (dV 8) (dCons (dCall sp_one ED0 (dBor 0 (dCons (dLst (dCons (dV 5) (dCons (dC .non) (dCons (dTup dNil) dNil)))) dNil))) dNil))))) (dRet (dC (.bl false))) dNext)) (dRet (dC (.bl true)))))))))))
def sp_world_right : DSp := fun args QD ED => args.length = 2 ∧ bodyQ args 8 (td_world_right ED) QD
theorem ok_world_right (F : Fx P K mg base T CL) : FnOk P w K mg base (L2.CX P w) 64 F.a_world_right F.F_world_right.fd ["jar", "n"] (spD K T CL sp_world_right) :=
  fn_okL (k := 63) F.F_world_right sc_world_right rfl (fun _ _ _ h => h.1) (fun _ _ _ h => h.2) fun A outer s H E Hb Φ ads ED hr tk => (dss_cons (ds_set (i := 2) sc_world_right.nd (de_call (ok_zc_sizes F) (hr.mono (by decide)) (by rfl) F.g_zc_sizes F.F_zc_sizes.kp (bd_zc_sizes F) (da_bor 0 (da_cons (de_v 1) da_nil)))) (dss_cons (ds_set (i := 3) sc_world_right.nd (de_lst (da_cons de_int (da_cons de_int (da_cons (de_neg de_int) (da_cons de_non (da_cons de_str (da_cons de_bl (da_cons de_bl (da_cons (de_tup (da_cons de_int da_nil)) (da_cons (de_lst (da_cons de_int da_nil)) (da_cons (de_op o_pow de_int de_int) (da_cons de_int (da_cons de_int (da_cons (de_call (ok_deep F) (hr.mono (by decide)) (by rfl) F.g_deep F.F_deep.kp (bd_deep F) (da_bor 0 (da_cons de_int da_nil))) da_nil))))))))))))))) (dss_cons (ds_for (passes_of rfl) rfl (di_seq (de_op o_add (de_lst (da_cons (de_v 2) (da_cons (de_op o_mul (de_tup (da_cons de_int da_nil)) (de_v 1)) (da_cons (de_op o_mul (de_tup (da_cons de_int da_nil)) (de_v 1)) da_nil)))) (de_call (ok_bent F) (hr.mono (by decide)) (by rfl) F.g_bent F.F_bent.kp (bd_bent F) (da_bor 0 (da_cons (de_v 2) (da_cons (de_v 3) da_nil)))))) (dg_n 4 sc_world_right.nd) (dss_one (ds_if (dt_not (dt_e (de_call (ok_sizes_right F) (hr.mono (by decide)) (by rfl) F.g_sizes_right F.F_sizes_right.kp (bd_sizes_right F) (da_cons (de_v 4) da_nil)))) (dss_one (ds_ret de_bl)) dss_nil))) (dss_cons (ds_set (i := 5) sc_world_right.nd (de_call (ok_zc_page F) (hr.mono (by decide)) (by rfl) F.g_zc_page F.F_zc_page.kp (bd_zc_page F) (da_bor 0 (da_cons (de_v 2) da_nil)))) (dss_cons (ds_set (i := 6) sc_world_right.nd (de_lst (da_cons (de_neg de_int) (da_cons de_non (da_cons de_str (da_cons de_bl (da_cons de_bl (da_cons (de_tup (da_cons de_int da_nil)) (da_cons (de_lst (da_cons de_int da_nil)) (da_cons (de_op o_pow de_int de_int) (da_cons de_int (da_cons de_int (da_cons (de_call (ok_one F) (hr.mono (by decide)) (by rfl) F.g_one F.F_one.kp (bd_one F) (da_bor 0 (da_cons (de_v 2) da_nil))) (da_cons (de_call (ok_deep F) (hr.mono (by decide)) (by rfl) F.g_deep F.F_deep.kp (bd_deep F) (da_bor 0 (da_cons de_int da_nil))) da_nil)))))))))))))) (dss_cons (ds_set (i := 7) sc_world_right.nd (de_t1 o_tuple (by rfl) F.n_tuple (by decide +kernel) (de_lc [("size", 9)] rfl sc_world_right.nd (di_seq (de_v 2)) (blkOk_by (N := ["jar", "n", "sizes", "odds", "thing", "page", "worths", "top", "bad", "size"]) (sc := defScope s_world_right) (by decide +kernel)) (fun _ _ _ _ _ => (dg_n 9 sc_world_right.nd)) (fun _ _ _ _ _ => dts_nil) (fun _ _ _ _ _ => (de_op o_sub (de_v 9) de_int))))) (dss_cons (ds_for (passes_of rfl) rfl (di_seq (de_op o_add (de_op o_add (de_op o_add (de_lst (da_cons (de_v 5) (da_cons (de_v 7) (da_cons (de_op o_mul (de_tup (da_cons de_int da_nil)) (de_v 1)) da_nil)))) (de_call (ok_bent F) (hr.mono (by decide)) (by rfl) F.g_bent F.F_bent.kp (bd_bent F) (da_bor 0 (da_cons (de_v 5) (da_cons (de_v 6) da_nil))))) (de_call (ok_things F) (hr.mono (by decide)) (by rfl) F.g_things F.F_things.kp (bd_things F) (da_bor 0 da_nil))) (de_lst (da_cons (de_v 2) da_nil)))) (dg_n 4 sc_world_right.nd) (dss_one (ds_if (dt_not (dt_e (de_call (ok_page_right F) (hr.mono (by decide)) (by rfl) F.g_page_right F.F_page_right.kp (bd_page_right F) (da_cons (de_v 2) (da_cons (de_v 4) da_nil))))) (dss_one (ds_ret de_bl)) dss_nil))) (dss_cons (ds_for (passes_of rfl) rfl (di_seq (de_op o_add (de_call (ok_bent F) (hr.mono (by decide)) (by rfl) F.g_bent F.F_bent.kp (bd_bent F) (da_bor 0 (da_cons (de_v 2) (da_cons (de_v 3) da_nil)))) (de_lst (da_cons de_non (da_cons (de_tup da_nil) (da_cons (de_lst (da_cons de_int da_nil)) da_nil)))))) (dg_n 8 sc_world_right.nd) (dss_one (ds_if (dt_not (dt_e (de_call (ok_page_right F) (hr.mono (by decide)) (by rfl) F.g_page_right F.F_page_right.kp (bd_page_right F) (da_cons (de_v 8) (da_cons (de_call (ok_one F) (hr.mono (by decide)) (by rfl) F.g_one F.F_one.kp (bd_one F) (da_bor 0 (da_cons (de_lst (da_cons (de_v 5) (da_cons de_non (da_cons (de_tup da_nil) da_nil)))) da_nil))) da_nil))))) (dss_one (ds_ret de_bl)) dss_nil))) (dss_one (ds_ret de_bl))))))))))
def td_law (ED : Nat → D → Prop) : DTS := (dSeq (dSetO 1 (dCall sp_pool ED0 (dCons (dV 0) dNil))) (dSeq (dFor (iSeq (dLst (dCons (dC (.int 1)) (dCons (dC (.int 2)) (dCons (dC (.int 3)) (dCons (dC (.int 8)) (dCons (dC (.int 24)) (dCons (dOp addD (dC (.int 1)) (dCall sp_take ED0 (dBor 1 (dCons (dC (.int 24)) dNil)))) dNil)))))))) (gNm 2) (dIfS (dNot (dTru (dCall sp_world_right ED0 (dBor 1 (dCons (dV 2) dNil))))) (dRet (dC (.bl false))) dNext)) (dSeq (dFor (iSeq (dOp addD (dCall sp_things ED0 (dBor 1 dNil)) (dLst (dCons (dOp mulD (dTup (dCons (dC (.int 1)) dNil)) (dC (.int 24))) (dCons (dOp mulD (dTup (dCons (dC (.int 6)) dNil)) (dC (.int 24))) (dCons (dOp mulD (dTup (dCons (dC (.int 1)) dNil)) (dC (.int 25))) (dCons (dOp mulD (dTup (dCons (dC .non) dNil)) (dC (.int 25))) (dCons (dOp mulD (dTup (dCons (dC (.int 9)) dNil)) (dC (.int 24))) (dCons (dOp mulD (dTup (dCons (dC (.bl true)) dNil)) (dC (.int 24))) dNil))))))))) (gNm 3) (dIfS (dNot (dTru (dCall sp_sizes_right ED0 (dCons (dV 3) dNil)))) (dRet (dC (.bl false))) dNext)) (dSeq (dSetO 4 (dLst (dCons (dOp ixD (dCall sp_sizes_told ED0 (dCons (dTup (dCons (dC (.int 3)) (dCons (dC (.int 2)) dNil))) dNil)) (dC (.int 0))) (dCons (dOp ixD (dCall sp_sizes_told ED0 (dCons (dTup (dCons (dC (.int 3)) (dCons (dC (.int 0)) (dCons (dC (.int 7)) dNil)))) dNil)) (dC (.int 0))) (dCons (dOp ixD (dCall sp_page_told ED0 (dCons (dTup (dCons (dC (.int 3)) (dCons (dC (.int 2)) dNil))) (dCons (dTup (dCons (dC (.int 2)) (dCons (dC (.int 1)) dNil))) dNil))) (dC (.int 2))) dNil))))) (dSeq (dDrop (dLm 4 extD (dCons (dLst (dCons (dOp ixD (dCall sp_page_told ED0 (dCons (dTup (dCons (dC (.int 3)) (dCons (dC (.int 2)) dNil))) (dCons (dTup (dCons (dC (.int 3)) (dCons (dC (.int 2)) dNil))) dNil))) (dC (.int 0))) (dCons (dOp ixD (dCall sp_page_told ED0 (dCons (dTup (dCons (dC (.int 3)) (dCons (dC (.int 2)) dNil))) (dCons (dTup (dCons (dC (.int 2)) (dCons (dC (.bl true)) dNil))) dNil))) (dC (.int 0))) dNil))) dNil))) (dSeq (dDrop (dLm 4 appD (dCons (dOp ixD (dCall sp_page_told ED0 (dCons (dTup (dCons (dC (.int 3)) dNil)) (dCons (dLst (dCons (dC (.int 0)) dNil)) dNil))) (dC (.int 0))) dNil))) (dSeq (dSet 5 (dLst (dCons (dTup (dCons (dC (.str "told")) (dCons (dTup (dCons (dC (.int 3)) (dCons (dC (.int 2)) dNil))) dNil))) (dCons (dTup (dCons (dC (.str "BadSizes")) (dCons (dC (.int 1)) dNil))) (dCons (dTup (dCons (dC (.str "told")) (dCons (dC (.bl true)) dNil))) (dCons (dTup (dCons (dC (.str "BadPage")) (dCons (dC (.int 0)) dNil))) (dCons (dTup (dCons (dC (.str "BadPage")) (dCons (dC (.int 1)) dNil))) (dCons (dTup (dCons (dC (.str "BadPage")) (dCons (dUn negD (dC (.int 1))) dNil))) dNil)))))))) (dRet (dCall (sp_yq_same 60) ED0 (dCons (dV 4) (dCons (dV 5) dNil)))))))))))
def sp_law : DSp := fun args QD ED => args.length = 1 ∧ bodyQ args 5 (td_law ED) QD
theorem ok_law (F : Fx P K mg base T CL) : FnOk P w K mg base (L2.CX P w) 65 F.a_law F.F_law.fd ["script"] (spD K T CL sp_law) :=
  fn_okL (k := 64) F.F_law sc_law rfl (fun _ _ _ h => h.1) (fun _ _ _ h => h.2) fun A outer s H E Hb Φ ads ED hr tk => (dss_cons (ds_setO (i := 1) sc_law.nd (de_call (ok_pool F) (hr.mono (by decide)) (by rfl) F.g_pool F.F_pool.kp (bd_pool F) (da_cons (de_v 0) da_nil))) (dss_cons (ds_for (passes_of rfl) rfl (di_seq (de_lst (da_cons de_int (da_cons de_int (da_cons de_int (da_cons de_int (da_cons de_int (da_cons (de_op o_add de_int (de_call (ok_take F) (hr.mono (by decide)) (by rfl) F.g_take F.F_take.kp (bd_take F) (da_bor 1 (da_cons de_int da_nil)))) da_nil)))))))) (dg_n 2 sc_law.nd) (dss_one (ds_if (dt_not (dt_e (de_call (ok_world_right F) (hr.mono (by decide)) (by rfl) F.g_world_right F.F_world_right.kp (bd_world_right F) (da_bor 1 (da_cons (de_v 2) da_nil))))) (dss_one (ds_ret de_bl)) dss_nil))) (dss_cons (ds_for (passes_of rfl) rfl (di_seq (de_op o_add (de_call (ok_things F) (hr.mono (by decide)) (by rfl) F.g_things F.F_things.kp (bd_things F) (da_bor 1 da_nil)) (de_lst (da_cons (de_op o_mul (de_tup (da_cons de_int da_nil)) de_int) (da_cons (de_op o_mul (de_tup (da_cons de_int da_nil)) de_int) (da_cons (de_op o_mul (de_tup (da_cons de_int da_nil)) de_int) (da_cons (de_op o_mul (de_tup (da_cons de_non da_nil)) de_int) (da_cons (de_op o_mul (de_tup (da_cons de_int da_nil)) de_int) (da_cons (de_op o_mul (de_tup (da_cons de_bl da_nil)) de_int) da_nil))))))))) (dg_n 3 sc_law.nd) (dss_one (ds_if (dt_not (dt_e (de_call (ok_sizes_right F) (hr.mono (by decide)) (by rfl) F.g_sizes_right F.F_sizes_right.kp (bd_sizes_right F) (da_cons (de_v 3) da_nil)))) (dss_one (ds_ret de_bl)) dss_nil))) (dss_cons (ds_setO (i := 4) sc_law.nd (de_lst (da_cons (de_ix (de_call (ok_sizes_told F) (hr.mono (by decide)) (by rfl) F.g_sizes_told F.F_sizes_told.kp (bd_sizes_told F) (da_cons (de_tup (da_cons de_int (da_cons de_int da_nil))) da_nil)) de_int) (da_cons (de_ix (de_call (ok_sizes_told F) (hr.mono (by decide)) (by rfl) F.g_sizes_told F.F_sizes_told.kp (bd_sizes_told F) (da_cons (de_tup (da_cons de_int (da_cons de_int (da_cons de_int da_nil)))) da_nil)) de_int) (da_cons (de_ix (de_call (ok_page_told F) (hr.mono (by decide)) (by rfl) F.g_page_told F.F_page_told.kp (bd_page_told F) (da_cons (de_tup (da_cons de_int (da_cons de_int da_nil))) (da_cons (de_tup (da_cons de_int (da_cons de_int da_nil))) da_nil))) de_int) da_nil))))) (dss_cons (ds_expr (de_lm 4 lm_ext mt_extend PySem.F.slot_list_extend PySem.F.type_list_extend (da_cons (de_lst (da_cons (de_ix (de_call (ok_page_told F) (hr.mono (by decide)) (by rfl) F.g_page_told F.F_page_told.kp (bd_page_told F) (da_cons (de_tup (da_cons de_int (da_cons de_int da_nil))) (da_cons (de_tup (da_cons de_int (da_cons de_int da_nil))) da_nil))) de_int) (da_cons (de_ix (de_call (ok_page_told F) (hr.mono (by decide)) (by rfl) F.g_page_told F.F_page_told.kp (bd_page_told F) (da_cons (de_tup (da_cons de_int (da_cons de_int da_nil))) (da_cons (de_tup (da_cons de_int (da_cons de_bl da_nil))) da_nil))) de_int) da_nil))) da_nil))) (dss_cons (ds_expr (de_lm 4 lm_app mt_append PySem.F.slot_list_append PySem.F.type_list_append (da_cons (de_ix (de_call (ok_page_told F) (hr.mono (by decide)) (by rfl) F.g_page_told F.F_page_told.kp (bd_page_told F) (da_cons (de_tup (da_cons de_int da_nil)) (da_cons (de_lst (da_cons de_int da_nil)) da_nil))) de_int) da_nil))) (dss_cons (ds_set (i := 5) sc_law.nd (de_lst (da_cons (de_tup (da_cons de_str (da_cons (de_tup (da_cons de_int (da_cons de_int da_nil))) da_nil))) (da_cons (de_tup (da_cons de_str (da_cons de_int da_nil))) (da_cons (de_tup (da_cons de_str (da_cons de_bl da_nil))) (da_cons (de_tup (da_cons de_str (da_cons de_int da_nil))) (da_cons (de_tup (da_cons de_str (da_cons de_int da_nil))) (da_cons (de_tup (da_cons de_str (da_cons (de_neg de_int) da_nil))) da_nil)))))))) (dss_one (ds_ret (de_call (ok_yq_same F 60) (hr.mono (by decide)) (by rfl) F.g_yq_same F.F_yq_same.kp (bd_yq_same F) (da_cons (de_v 4) (da_cons (de_v 5) da_nil))))))))))))
end
theorem all_mk {l : PySem.W.OpenLaw} {w : World} {K : PySem.W.Frag} {h : Heap} {mg : Str → Option Value} {fa : Addr} {a_is_between : Addr} {a_is_below : Addr} {a_wrong_size : Addr} {a_is_sizes : Addr} {a_made_sizes : Addr} {a_wrong_worth : Addr} {a_is_page : Addr} {a_made_page : Addr} {a_pool : Addr} {a_take : Addr} {a_one : Addr} {a_yq_is_whole : Addr} {a_yq_same : Addr} {a_zc_sizes_due : Addr} {a_zc_page_due : Addr} {a_zc_sizes : Addr} {a_zc_page : Addr} {a_heard : Addr} {a_sizes_told : Addr} {a_page_told : Addr} {a_owed : Addr} {a_sizes_right : Addr} {a_page_right : Addr} {a_deep : Addr} {a_bent : Addr} {a_things : Addr} {a_world_right : Addr} {a_law : Addr} {C_Refused : Addr} {C_BadSizes : Addr} {C_BadPage : Addr} {c_sizes_told : Addr} {c_page_told : Addr} {P_sizes_told : Addr} {P_page_told : Addr} {i_f : Addr} {t_MOST_SETTINGS : Tok} {t_MOST_WORTHS : Tok} (X : K.In h) (G : h.Ns mainGlobals mg) (hfa : mg "law" = some (.ref fa))
    (S2 : ∀ ns : List Int, ns.length ≤ 63 → (∀ z ∈ ns, Builtin.Int.intBits z ≤ 1048576) → sp_law [.fz (.rol (ns.map D.int))] (fun r _ => r = .fz (.bl true)) (fun _ _ => False))
    (n_is_between : PySem.W.nsIn K mainGlobals "is_between" = some (some (.ref a_is_between)))
    (F_is_between : FunL K "is_between" "is_between" s_is_between a_is_between)
    (n_is_below : PySem.W.nsIn K mainGlobals "is_below" = some (some (.ref a_is_below)))
    (F_is_below : FunL K "is_below" "is_below" s_is_below a_is_below)
    (n_wrong_size : PySem.W.nsIn K mainGlobals "wrong_size" = some (some (.ref a_wrong_size)))
    (F_wrong_size : FunL K "wrong_size" "wrong_size" s_wrong_size a_wrong_size)
    (n_is_sizes : PySem.W.nsIn K mainGlobals "is_sizes" = some (some (.ref a_is_sizes)))
    (F_is_sizes : FunL K "is_sizes" "is_sizes" s_is_sizes a_is_sizes)
    (n_made_sizes : PySem.W.nsIn K mainGlobals "made_sizes" = some (some (.ref a_made_sizes)))
    (F_made_sizes : FunL K "made_sizes" "made_sizes" s_made_sizes a_made_sizes)
    (n_wrong_worth : PySem.W.nsIn K mainGlobals "wrong_worth" = some (some (.ref a_wrong_worth)))
    (F_wrong_worth : FunL K "wrong_worth" "wrong_worth" s_wrong_worth a_wrong_worth)
    (n_is_page : PySem.W.nsIn K mainGlobals "is_page" = some (some (.ref a_is_page)))
    (F_is_page : FunL K "is_page" "is_page" s_is_page a_is_page)
    (n_made_page : PySem.W.nsIn K mainGlobals "made_page" = some (some (.ref a_made_page)))
    (F_made_page : FunL K "made_page" "made_page" s_made_page a_made_page)
    (n_pool : PySem.W.nsIn K mainGlobals "_law_pool" = some (some (.ref a_pool)))
    (F_pool : FunL K "_law_pool" "_law_pool" s_pool a_pool)
    (n_take : PySem.W.nsIn K mainGlobals "_law_take" = some (some (.ref a_take)))
    (F_take : FunL K "_law_take" "_law_take" s_take a_take)
    (n_one : PySem.W.nsIn K mainGlobals "_law_one" = some (some (.ref a_one)))
    (F_one : FunL K "_law_one" "_law_one" s_one a_one)
    (n_yq_is_whole : PySem.W.nsIn K mainGlobals "_law_yq_is_whole" = some (some (.ref a_yq_is_whole)))
    (F_yq_is_whole : FunL K "_law_yq_is_whole" "_law_yq_is_whole" s_yq_is_whole a_yq_is_whole)
    (n_yq_same : PySem.W.nsIn K mainGlobals "_law_yq_same" = some (some (.ref a_yq_same)))
    (F_yq_same : FunL K "_law_yq_same" "_law_yq_same" s_yq_same a_yq_same)
    (n_zc_sizes_due : PySem.W.nsIn K mainGlobals "_law_zc_sizes_due" = some (some (.ref a_zc_sizes_due)))
    (F_zc_sizes_due : FunL K "_law_zc_sizes_due" "_law_zc_sizes_due" s_zc_sizes_due a_zc_sizes_due)
    (n_zc_page_due : PySem.W.nsIn K mainGlobals "_law_zc_page_due" = some (some (.ref a_zc_page_due)))
    (F_zc_page_due : FunL K "_law_zc_page_due" "_law_zc_page_due" s_zc_page_due a_zc_page_due)
    (n_zc_sizes : PySem.W.nsIn K mainGlobals "_law_zc_sizes" = some (some (.ref a_zc_sizes)))
    (F_zc_sizes : FunL K "_law_zc_sizes" "_law_zc_sizes" s_zc_sizes a_zc_sizes)
    (n_zc_page : PySem.W.nsIn K mainGlobals "_law_zc_page" = some (some (.ref a_zc_page)))
    (F_zc_page : FunL K "_law_zc_page" "_law_zc_page" s_zc_page a_zc_page)
    (n_heard : PySem.W.nsIn K mainGlobals "_law_heard" = some (some (.ref a_heard)))
    (F_heard : FunL K "_law_heard" "_law_heard" s_heard a_heard)
    (n_sizes_told : PySem.W.nsIn K mainGlobals "_law_sizes_told" = some (some (.ref a_sizes_told)))
    (F_sizes_told : FunL K "_law_sizes_told" "_law_sizes_told" s_sizes_told a_sizes_told)
    (n_page_told : PySem.W.nsIn K mainGlobals "_law_page_told" = some (some (.ref a_page_told)))
    (F_page_told : FunL K "_law_page_told" "_law_page_told" s_page_told a_page_told)
    (n_owed : PySem.W.nsIn K mainGlobals "_law_owed" = some (some (.ref a_owed)))
    (F_owed : FunL K "_law_owed" "_law_owed" s_owed a_owed)
    (n_sizes_right : PySem.W.nsIn K mainGlobals "_law_sizes_right" = some (some (.ref a_sizes_right)))
    (F_sizes_right : FunL K "_law_sizes_right" "_law_sizes_right" s_sizes_right a_sizes_right)
    (n_page_right : PySem.W.nsIn K mainGlobals "_law_page_right" = some (some (.ref a_page_right)))
    (F_page_right : FunL K "_law_page_right" "_law_page_right" s_page_right a_page_right)
    (n_deep : PySem.W.nsIn K mainGlobals "_law_deep" = some (some (.ref a_deep)))
    (F_deep : FunL K "_law_deep" "_law_deep" s_deep a_deep)
    (n_bent : PySem.W.nsIn K mainGlobals "_law_bent" = some (some (.ref a_bent)))
    (F_bent : FunL K "_law_bent" "_law_bent" s_bent a_bent)
    (n_things : PySem.W.nsIn K mainGlobals "_law_things" = some (some (.ref a_things)))
    (F_things : FunL K "_law_things" "_law_things" s_things a_things)
    (n_world_right : PySem.W.nsIn K mainGlobals "_law_world_right" = some (some (.ref a_world_right)))
    (F_world_right : FunL K "_law_world_right" "_law_world_right" s_world_right a_world_right)
    (n_law : PySem.W.nsIn K mainGlobals "law" = some (some (.ref a_law)))
    (F_law : FunL K "law" "law" s_law a_law)
    (z_bool : PySem.W.nsIn K mainGlobals "bool" = some none)
    (z_enumerate : PySem.W.nsIn K mainGlobals "enumerate" = some none)
    (z_int : PySem.W.nsIn K mainGlobals "int" = some none)
    (z_isinstance : PySem.W.nsIn K mainGlobals "isinstance" = some none)
    (z_len : PySem.W.nsIn K mainGlobals "len" = some none)
    (z_list : PySem.W.nsIn K mainGlobals "list" = some none)
    (z_max : PySem.W.nsIn K mainGlobals "max" = some none)
    (z_range : PySem.W.nsIn K mainGlobals "range" = some none)
    (z_str : PySem.W.nsIn K mainGlobals "str" = some none)
    (z_tuple : PySem.W.nsIn K mainGlobals "tuple" = some none)
    (v_MOST_SETTINGS : PySem.W.nsIn K mainGlobals "MOST_SETTINGS" = some (some (.int 24 t_MOST_SETTINGS)))
    (v_MOST_WORTHS : PySem.W.nsIn K mainGlobals "MOST_WORTHS" = some (some (.int 6 t_MOST_WORTHS)))
    (hc_sizes_told : F_sizes_told.cd = .ref c_sizes_told)
    (hd_sizes_told : PySem.W.codeHdIn K c_sizes_told P_sizes_told = true)
    (ho_sizes_told : K.lookup P_sizes_told = none)
    (ht_sizes_told : h.get? P_sizes_told = some { cls := .none, data := .fields #[] })
    (hc_page_told : F_page_told.cd = .ref c_page_told)
    (hd_page_told : PySem.W.codeHdIn K c_page_told P_page_told = true)
    (ho_page_told : K.lookup P_page_told = none)
    (ht_page_told : h.get? P_page_told = some { cls := .none, data := .fields #[] })
    (nd_sizes_told_page_told : P_sizes_told ≠ P_page_told)
    (n_Refused : PySem.W.nsIn K mainGlobals "Refused" = some (some (.ref C_Refused)))
    (o_Refused : OneC K C_Refused)
    (n_BadSizes : PySem.W.nsIn K mainGlobals "BadSizes" = some (some (.ref C_BadSizes)))
    (o_BadSizes : OneC K C_BadSizes)
    (n_BadPage : PySem.W.nsIn K mainGlobals "BadPage" = some (some (.ref C_BadPage)))
    (o_BadPage : OneC K C_BadPage)
    (e_Refused_Refused : PySem.W.subIn K (.ref C_Refused) (.ref C_Refused) = some true)
    (e_Refused_BadSizes : PySem.W.subIn K (.ref C_Refused) (.ref C_BadSizes) = some false)
    (e_Refused_BadPage : PySem.W.subIn K (.ref C_Refused) (.ref C_BadPage) = some false)
    (e_BadSizes_Refused : PySem.W.subIn K (.ref C_BadSizes) (.ref C_Refused) = some true)
    (e_BadSizes_BadSizes : PySem.W.subIn K (.ref C_BadSizes) (.ref C_BadSizes) = some true)
    (e_BadSizes_BadPage : PySem.W.subIn K (.ref C_BadSizes) (.ref C_BadPage) = some false)
    (e_BadPage_Refused : PySem.W.subIn K (.ref C_BadPage) (.ref C_Refused) = some true)
    (e_BadPage_BadSizes : PySem.W.subIn K (.ref C_BadPage) (.ref C_BadSizes) = some false)
    (e_BadPage_BadPage : PySem.W.subIn K (.ref C_BadPage) (.ref C_BadPage) = some true)
    (fi_BadSizes : PySem.W.findIn K (.ref C_BadSizes) "__init__" = some (some (.ref i_f)))
    (I : InitL l.prog K "Refused.__init__" s_init C_Refused i_f)
    (tI : PySem.W.typeIn K (.ref i_f) = some (.type "function"))
    (z_super : PySem.W.nsIn K mainGlobals "super" = some none)
    (th : PySem.W.nsIn K cStatics "thirdparty.any" = some none)
    (dcl : (PySem.W.clsIn K C_Refused).isSome = true)
    (top : (l.prog.main.scope.names.lookup ("super" : Str)).isSome = false)
    (md_BadSizes : MadeC K C_BadSizes C_Refused i_f)
    (md_BadPage : MadeC K C_BadPage C_Refused i_f) :
    LawAtS l w K (L2.CX l.prog w) 65 63 "script" mg fa h := by
  have e := hfa.symm.trans (PySem.W.mg_of X G n_law)
  cases e
  refine ⟨F_law.fd, [(c_sizes_told, P_sizes_told), (c_page_told, P_page_told)], spD K [(P_sizes_told, ("_law_sizes_told" : Str) ++ ".<locals>." ++ "<lambda>"), (P_page_told, ("_law_page_told" : Str) ++ ".<locals>." ++ "<lambda>")] (clOf [(0, C_Refused), (1, C_BadSizes), (2, C_BadPage)]) sp_law, (fun p hp => by
    simp only [List.mem_cons, List.not_mem_nil, or_false] at hp
    rcases hp with rfl | rfl
    · exact ht_sizes_told
    · exact ht_page_told), (fun p hp => by
    simp only [List.mem_cons, List.not_mem_nil, or_false] at hp
    rcases hp with rfl | rfl
    · exact ho_sizes_told
    · exact ho_page_told), (fun p hp => by
    simp only [List.mem_cons, List.not_mem_nil, or_false] at hp
    rcases hp with rfl | rfl
    · exact PySem.W.codeHd_of_K X hd_sizes_told
    · exact PySem.W.codeHd_of_K X hd_page_told), fun s u => .of_eq rfl, fun H a ns h1 h2 h3 h4 => law_sp (fun p hp => by
    simp only [List.mem_cons, List.not_mem_nil, or_false] at hp
    rcases hp with rfl | rfl
    · exact h3 (c_sizes_told, P_sizes_told) (by simp)
    · exact h3 (c_page_told, P_page_told) (by simp)) h4 (S2 ns h1 h2), fun base kb nb tb => ?_⟩
  exact ok_law (T := [(P_sizes_told, ("_law_sizes_told" : Str) ++ ".<locals>." ++ "<lambda>"), (P_page_told, ("_law_page_told" : Str) ++ ".<locals>." ++ "<lambda>")]) (CL := clOf [(0, C_Refused), (1, C_BadSizes), (2, C_BadPage)]) (F := {
    a_is_between := a_is_between, F_is_between := F_is_between, g_is_between := PySem.W.mg_of X G n_is_between,
    a_is_below := a_is_below, F_is_below := F_is_below, g_is_below := PySem.W.mg_of X G n_is_below,
    a_wrong_size := a_wrong_size, F_wrong_size := F_wrong_size, g_wrong_size := PySem.W.mg_of X G n_wrong_size,
    a_is_sizes := a_is_sizes, F_is_sizes := F_is_sizes, g_is_sizes := PySem.W.mg_of X G n_is_sizes,
    a_made_sizes := a_made_sizes, F_made_sizes := F_made_sizes, g_made_sizes := PySem.W.mg_of X G n_made_sizes,
    a_wrong_worth := a_wrong_worth, F_wrong_worth := F_wrong_worth, g_wrong_worth := PySem.W.mg_of X G n_wrong_worth,
    a_is_page := a_is_page, F_is_page := F_is_page, g_is_page := PySem.W.mg_of X G n_is_page,
    a_made_page := a_made_page, F_made_page := F_made_page, g_made_page := PySem.W.mg_of X G n_made_page,
    a_pool := a_pool, F_pool := F_pool, g_pool := PySem.W.mg_of X G n_pool,
    a_take := a_take, F_take := F_take, g_take := PySem.W.mg_of X G n_take,
    a_one := a_one, F_one := F_one, g_one := PySem.W.mg_of X G n_one,
    a_yq_is_whole := a_yq_is_whole, F_yq_is_whole := F_yq_is_whole, g_yq_is_whole := PySem.W.mg_of X G n_yq_is_whole,
    a_yq_same := a_yq_same, F_yq_same := F_yq_same, g_yq_same := PySem.W.mg_of X G n_yq_same,
    a_zc_sizes_due := a_zc_sizes_due, F_zc_sizes_due := F_zc_sizes_due, g_zc_sizes_due := PySem.W.mg_of X G n_zc_sizes_due,
    a_zc_page_due := a_zc_page_due, F_zc_page_due := F_zc_page_due, g_zc_page_due := PySem.W.mg_of X G n_zc_page_due,
    a_zc_sizes := a_zc_sizes, F_zc_sizes := F_zc_sizes, g_zc_sizes := PySem.W.mg_of X G n_zc_sizes,
    a_zc_page := a_zc_page, F_zc_page := F_zc_page, g_zc_page := PySem.W.mg_of X G n_zc_page,
    a_heard := a_heard, F_heard := F_heard, g_heard := PySem.W.mg_of X G n_heard,
    a_sizes_told := a_sizes_told, F_sizes_told := F_sizes_told, g_sizes_told := PySem.W.mg_of X G n_sizes_told,
    a_page_told := a_page_told, F_page_told := F_page_told, g_page_told := PySem.W.mg_of X G n_page_told,
    a_owed := a_owed, F_owed := F_owed, g_owed := PySem.W.mg_of X G n_owed,
    a_sizes_right := a_sizes_right, F_sizes_right := F_sizes_right, g_sizes_right := PySem.W.mg_of X G n_sizes_right,
    a_page_right := a_page_right, F_page_right := F_page_right, g_page_right := PySem.W.mg_of X G n_page_right,
    a_deep := a_deep, F_deep := F_deep, g_deep := PySem.W.mg_of X G n_deep,
    a_bent := a_bent, F_bent := F_bent, g_bent := PySem.W.mg_of X G n_bent,
    a_things := a_things, F_things := F_things, g_things := PySem.W.mg_of X G n_things,
    a_world_right := a_world_right, F_world_right := F_world_right, g_world_right := PySem.W.mg_of X G n_world_right,
    a_law := _, F_law := F_law, g_law := PySem.W.mg_of X G n_law,
    n_bool := PySem.W.mg_none_of X G z_bool,
    n_enumerate := PySem.W.mg_none_of X G z_enumerate,
    n_int := PySem.W.mg_none_of X G z_int,
    n_isinstance := PySem.W.mg_none_of X G z_isinstance,
    n_len := PySem.W.mg_none_of X G z_len,
    n_list := PySem.W.mg_none_of X G z_list,
    n_max := PySem.W.mg_none_of X G z_max,
    n_range := PySem.W.mg_none_of X G z_range,
    n_str := PySem.W.mg_none_of X G z_str,
    n_tuple := PySem.W.mg_none_of X G z_tuple,
    t_MOST_SETTINGS := t_MOST_SETTINGS, g_MOST_SETTINGS := PySem.W.mg_of X G v_MOST_SETTINGS,
    t_MOST_WORTHS := t_MOST_WORTHS, g_MOST_WORTHS := PySem.W.mg_of X G v_MOST_WORTHS,
    c_sizes_told := c_sizes_told, P_sizes_told := P_sizes_told, code_sizes_told := hc_sizes_told, tb_sizes_told := tb (c_sizes_told, P_sizes_told) (by simp), in_sizes_told := by simp, only_sizes_told := (fun p hp z => by
          simp only [List.mem_cons, List.not_mem_nil, or_false] at hp
          rcases hp with rfl | rfl
          · exact rfl
          · exact absurd z (Ne.symm nd_sizes_told_page_told)),
    c_page_told := c_page_told, P_page_told := P_page_told, code_page_told := hc_page_told, tb_page_told := tb (c_page_told, P_page_told) (by simp), in_page_told := by simp, only_page_told := (fun p hp z => by
          simp only [List.mem_cons, List.not_mem_nil, or_false] at hp
          rcases hp with rfl | rfl
          · exact absurd z nd_sizes_told_page_told
          · exact rfl),
    CO := clsOk_of (fun p hp => by
          simp only [List.mem_cons, List.not_mem_nil, or_false] at hp
          rcases hp with rfl | rfl | rfl
          · exact o_Refused.x
          · exact o_BadSizes.x
          · exact o_BadPage.x) (fun p hp q hq => by
          simp only [List.mem_cons, List.not_mem_nil, or_false] at hp hq
          rcases hp with rfl | rfl | rfl <;> rcases hq with rfl | rfl | rfl
          · exact em_of o_Refused.ex o_Refused.hd o_Refused.ty e_Refused_Refused
          · exact em_of o_BadSizes.ex o_BadSizes.hd o_BadSizes.ty e_Refused_BadSizes
          · exact em_of o_BadPage.ex o_BadPage.hd o_BadPage.ty e_Refused_BadPage
          · exact em_of o_Refused.ex o_Refused.hd o_Refused.ty e_BadSizes_Refused
          · exact em_of o_BadSizes.ex o_BadSizes.hd o_BadSizes.ty e_BadSizes_BadSizes
          · exact em_of o_BadPage.ex o_BadPage.hd o_BadPage.ty e_BadSizes_BadPage
          · exact em_of o_Refused.ex o_Refused.hd o_Refused.ty e_BadPage_Refused
          · exact em_of o_BadSizes.ex o_BadSizes.hd o_BadSizes.ty e_BadPage_BadSizes
          · exact em_of o_BadPage.ex o_BadPage.hd o_BadPage.ty e_BadPage_BadPage),
    C_Refused := C_Refused, cl_Refused := rfl, gc_Refused := PySem.W.mg_of X G n_Refused,
    C_BadSizes := C_BadSizes, cl_BadSizes := rfl, gc_BadSizes := PySem.W.mg_of X G n_BadSizes,
    C_BadPage := C_BadPage, cl_BadPage := rfl, gc_BadPage := PySem.W.mg_of X G n_BadPage,
    i_f := i_f, I := I, tI := tI, n_super := PySem.W.mg_none_of X G z_super,
    m_BadSizes := supC_of md_BadSizes o_BadSizes th dcl top, iC_BadSizes := md_BadSizes.iC,
    m_BadPage := supC_of md_BadPage o_BadPage th dcl top, iC_BadPage := md_BadPage.iC })
end K01

set_option Elab.async false
set_option linter.all false
set_option maxRecDepth 100000
set_option maxHeartbeats 2000000
namespace K01
open PySem PySem.Spec PyProof.Rows L2 LamX NdefX DL
theorem w_take {o : OC} {t : Int} {Q : Rv → List OC → Prop} {ED : Nat → D → Prop} (hJ : J o) (h0 : 0 < t) (h1 : t.natAbs.log2 < 9000) (hQ : ∀ n o', J o' → 0 ≤ n → n < t → Q (.fz (.int n)) [o']) : sp_take [.bor o, .fz (.int t)] Q ED := by
  obtain ⟨a, b, c, rfl⟩ := hJ
  refine ⟨rfl, ?_⟩
  (try simp only [dSeq, dIfS, dRet, dRetN, dNext, dSet, dSetO, dDrop, dCall, callQ, dCallKw, dCons, dNil, dBor, dsQ, dTup, dLst, dV, dC, slot, dOp, dUn, dCmp, dCmpT, dChain, dChainT, dTru, dAnd, dOr, dNot, dAndV, dOrV, dNotV, dIf, dIsi, dNoO, dSoO, dSl, bodyQ, endsOf, outsOf, lents, putB, lentQ, dAsg, gNm, gsNil, iSeq, iRng, DL.iRng2, iEnm, dLm, dLm0, dPut, dMm, dYes, hQ, isSub, hideE, pick_0, pick_10, pick_210, rep2, kg, dFor, dLc, wipeD, restD, dPar, ixN3_0, ixN3_1, ixN3_2, ex_some, dRaise_1, dHeard_e, List.set_cons_zero, List.set_cons_succ, rdQ_fz, rdQ_own, rdQ_at, rdS_fz, rdS_own, rdS_bor, frzQ_fz, frzQ_own, frzQ_at, frS_fz, frS_own, nmQ_s, nmS_fz, nmS_own, nmS_bor, retQ_fz, retQ_own, retQ_at, rtS_fz, rtS_own, argsOf_at, argsOf_d, argsOf_n, lnS_own, lnS_bor, lnS_fz, reS_o, reS_b, setF_d, setO_own, setO_fz, setO_at, notBor_fz, notBor_own, notBor_no, isOwn_own, isOwn_bor, addD_ii, addD_ss, addD_ll, addD_tt, subD_ii, mulD_ii, mulD_li, mulD_ti, fdivD_ii, modD_ii, powD_ii, negD_i, ltD_ii, leD_ii, gtD_ii, geD_ii, isQ_n, isQ_b, nisQ_n, isN_non, isN_bl, isN_int, isN_str, isN_tup, isN_lst, isN_rol, isN_dct, isT_int_non, isT_int_bl, isT_int_int, isT_int_str, isT_int_tup, isT_int_lst, isT_int_rol, isT_int_dct, isT_bool_non, isT_bool_bl, isT_bool_int, isT_bool_str, isT_bool_tup, isT_bool_lst, isT_bool_rol, isT_bool_dct, isT_str_non, isT_str_bl, isT_str_int, isT_str_str, isT_str_tup, isT_str_lst, isT_str_rol, isT_str_dct, isT_tuple_non, isT_tuple_bl, isT_tuple_int, isT_tuple_str, isT_tuple_tup, isT_tuple_lst, isT_tuple_rol, isT_tuple_dct, isT_list_non, isT_list_bl, isT_list_int, isT_list_str, isT_list_tup, isT_list_lst, isT_list_rol, isT_list_dct, isT_dict_non, isT_dict_bl, isT_dict_int, isT_dict_str, isT_dict_tup, isT_dict_lst, isT_dict_rol, isT_dict_dct, truQ_non, truQ_bl, truQ_int, truQ_tup, truQ_lst, blQ_bl, lenD_tup, lenD_lst, lenD_rol, lenD_str, tupD_tup, tupD_lst, lstD_tup, lstD_lst, lstD_rol, intD_i, intD_b, boolD_i, boolD_b, ixD_tup, ixD_lst, ixD_rol, slD_lst, slD_tup, intQ_i, appD_1, extD_1, lsQ_own, lsQ_bor, gTp_t, gsCons_c, seqQ_t, seqQ_l, seqQ_r, hideS_fz, hideS_own, hideS_bor, hideS_no, mmQ_ii, atI_0, atI_1, atI_2, List.map_cons, List.map_nil, List.replicate, List.cons_append, List.nil_append, List.append_nil, List.set, List.length_cons, List.length_nil, decide_eq_true_eq, if_true, if_false, Bool.not_true, Bool.not_false, Bool.false_eq_true, and_true, true_and, List.nodup_cons, List.not_mem_nil, not_false_eq_true, List.nodup_nil, List.mem_cons, or_false, List.getD, td_take])
  split
  · exact ⟨h0, ⟨h0, h1⟩, hQ _ _ ⟨_, _, _, rfl⟩ (Int.emod_nonneg _ (by omega)) (Int.emod_lt_of_pos _ h0)⟩
  · exact ⟨.inl (.inr (by decide)), .inl (.inl (by decide)), by decide, .inl (.inl (by omega)), by decide, ⟨by decide, by decide⟩, h0, hQ _ _ ⟨_, _, _, rfl⟩ (Int.emod_nonneg _ (by omega)) (Int.emod_lt_of_pos _ h0)⟩
theorem lg {n : Int} (h0 : 0 ≤ n) (h : n ≤ 16777216) : n.natAbs.log2 < 9000 := by
  have h1 : n.natAbs.log2 ≤ n.natAbs := Nat.log2_le_self _
  have h2 : n.natAbs.log2 ≤ (16777216 : Nat).log2 := by
    by_cases z : n.natAbs = 0
    · rw [z]; decide
    · refine (Nat.le_log2 (by decide)).mpr ?_
      have := Nat.log2_self_le z
      omega
  have h3 : (16777216 : Nat).log2 = 24 := by decide
  omega
theorem w_oneL {o : OC} {ds : List D} {Q : Rv → List OC → Prop} {ED : Nat → D → Prop} (hJ : J o) (h0 : ds ≠ []) (h1 : ds.length ≤ 16777216) (hQ : ∀ d ∈ ds, ∀ o', J o' → Q (.fz d) [o']) : sp_one [.bor o, .fz (.lst ds)] Q ED := by
  refine ⟨rfl, ?_⟩
  (try simp only [dSeq, dIfS, dRet, dRetN, dNext, dSet, dSetO, dDrop, dCall, callQ, dCallKw, dCons, dNil, dBor, dsQ, dTup, dLst, dV, dC, slot, dOp, dUn, dCmp, dCmpT, dChain, dChainT, dTru, dAnd, dOr, dNot, dAndV, dOrV, dNotV, dIf, dIsi, dNoO, dSoO, dSl, bodyQ, endsOf, outsOf, lents, putB, lentQ, dAsg, gNm, gsNil, iSeq, iRng, DL.iRng2, iEnm, dLm, dLm0, dPut, dMm, dYes, hQ, isSub, hideE, pick_0, pick_10, pick_210, rep2, kg, dFor, dLc, wipeD, restD, dPar, ixN3_0, ixN3_1, ixN3_2, ex_some, dRaise_1, dHeard_e, List.set_cons_zero, List.set_cons_succ, rdQ_fz, rdQ_own, rdQ_at, rdS_fz, rdS_own, rdS_bor, frzQ_fz, frzQ_own, frzQ_at, frS_fz, frS_own, nmQ_s, nmS_fz, nmS_own, nmS_bor, retQ_fz, retQ_own, retQ_at, rtS_fz, rtS_own, argsOf_at, argsOf_d, argsOf_n, lnS_own, lnS_bor, lnS_fz, reS_o, reS_b, setF_d, setO_own, setO_fz, setO_at, notBor_fz, notBor_own, notBor_no, isOwn_own, isOwn_bor, addD_ii, addD_ss, addD_ll, addD_tt, subD_ii, mulD_ii, mulD_li, mulD_ti, fdivD_ii, modD_ii, powD_ii, negD_i, ltD_ii, leD_ii, gtD_ii, geD_ii, isQ_n, isQ_b, nisQ_n, isN_non, isN_bl, isN_int, isN_str, isN_tup, isN_lst, isN_rol, isN_dct, isT_int_non, isT_int_bl, isT_int_int, isT_int_str, isT_int_tup, isT_int_lst, isT_int_rol, isT_int_dct, isT_bool_non, isT_bool_bl, isT_bool_int, isT_bool_str, isT_bool_tup, isT_bool_lst, isT_bool_rol, isT_bool_dct, isT_str_non, isT_str_bl, isT_str_int, isT_str_str, isT_str_tup, isT_str_lst, isT_str_rol, isT_str_dct, isT_tuple_non, isT_tuple_bl, isT_tuple_int, isT_tuple_str, isT_tuple_tup, isT_tuple_lst, isT_tuple_rol, isT_tuple_dct, isT_list_non, isT_list_bl, isT_list_int, isT_list_str, isT_list_tup, isT_list_lst, isT_list_rol, isT_list_dct, isT_dict_non, isT_dict_bl, isT_dict_int, isT_dict_str, isT_dict_tup, isT_dict_lst, isT_dict_rol, isT_dict_dct, truQ_non, truQ_bl, truQ_int, truQ_tup, truQ_lst, blQ_bl, lenD_tup, lenD_lst, lenD_rol, lenD_str, tupD_tup, tupD_lst, lstD_tup, lstD_lst, lstD_rol, intD_i, intD_b, boolD_i, boolD_b, ixD_tup, ixD_lst, ixD_rol, slD_lst, slD_tup, intQ_i, appD_1, extD_1, lsQ_own, lsQ_bor, gTp_t, gsCons_c, seqQ_t, seqQ_l, seqQ_r, hideS_fz, hideS_own, hideS_bor, hideS_no, mmQ_ii, atI_0, atI_1, atI_2, List.map_cons, List.map_nil, List.replicate, List.cons_append, List.nil_append, List.append_nil, List.set, List.length_cons, List.length_nil, decide_eq_true_eq, if_true, if_false, Bool.not_true, Bool.not_false, Bool.false_eq_true, and_true, true_and, List.nodup_cons, List.not_mem_nil, not_false_eq_true, List.nodup_nil, List.mem_cons, or_false, List.getD, td_one])
  have hp : 0 < ds.length := List.length_pos_iff.mpr h0
  refine ⟨(by simp [lents, slot, Sl.isOwn]), w_take hJ (by omega) (lg (by omega) (by omega)) fun n o' hJ' n0 n1 => ?_⟩
  (try simp only [dSeq, dIfS, dRet, dRetN, dNext, dSet, dSetO, dDrop, dCall, callQ, dCallKw, dCons, dNil, dBor, dsQ, dTup, dLst, dV, dC, slot, dOp, dUn, dCmp, dCmpT, dChain, dChainT, dTru, dAnd, dOr, dNot, dAndV, dOrV, dNotV, dIf, dIsi, dNoO, dSoO, dSl, bodyQ, endsOf, outsOf, lents, putB, lentQ, dAsg, gNm, gsNil, iSeq, iRng, DL.iRng2, iEnm, dLm, dLm0, dPut, dMm, dYes, hQ, isSub, hideE, pick_0, pick_10, pick_210, rep2, kg, dFor, dLc, wipeD, restD, dPar, ixN3_0, ixN3_1, ixN3_2, ex_some, dRaise_1, dHeard_e, List.set_cons_zero, List.set_cons_succ, rdQ_fz, rdQ_own, rdQ_at, rdS_fz, rdS_own, rdS_bor, frzQ_fz, frzQ_own, frzQ_at, frS_fz, frS_own, nmQ_s, nmS_fz, nmS_own, nmS_bor, retQ_fz, retQ_own, retQ_at, rtS_fz, rtS_own, argsOf_at, argsOf_d, argsOf_n, lnS_own, lnS_bor, lnS_fz, reS_o, reS_b, setF_d, setO_own, setO_fz, setO_at, notBor_fz, notBor_own, notBor_no, isOwn_own, isOwn_bor, addD_ii, addD_ss, addD_ll, addD_tt, subD_ii, mulD_ii, mulD_li, mulD_ti, fdivD_ii, modD_ii, powD_ii, negD_i, ltD_ii, leD_ii, gtD_ii, geD_ii, isQ_n, isQ_b, nisQ_n, isN_non, isN_bl, isN_int, isN_str, isN_tup, isN_lst, isN_rol, isN_dct, isT_int_non, isT_int_bl, isT_int_int, isT_int_str, isT_int_tup, isT_int_lst, isT_int_rol, isT_int_dct, isT_bool_non, isT_bool_bl, isT_bool_int, isT_bool_str, isT_bool_tup, isT_bool_lst, isT_bool_rol, isT_bool_dct, isT_str_non, isT_str_bl, isT_str_int, isT_str_str, isT_str_tup, isT_str_lst, isT_str_rol, isT_str_dct, isT_tuple_non, isT_tuple_bl, isT_tuple_int, isT_tuple_str, isT_tuple_tup, isT_tuple_lst, isT_tuple_rol, isT_tuple_dct, isT_list_non, isT_list_bl, isT_list_int, isT_list_str, isT_list_tup, isT_list_lst, isT_list_rol, isT_list_dct, isT_dict_non, isT_dict_bl, isT_dict_int, isT_dict_str, isT_dict_tup, isT_dict_lst, isT_dict_rol, isT_dict_dct, truQ_non, truQ_bl, truQ_int, truQ_tup, truQ_lst, blQ_bl, lenD_tup, lenD_lst, lenD_rol, lenD_str, tupD_tup, tupD_lst, lstD_tup, lstD_lst, lstD_rol, intD_i, intD_b, boolD_i, boolD_b, ixD_tup, ixD_lst, ixD_rol, slD_lst, slD_tup, intQ_i, appD_1, extD_1, lsQ_own, lsQ_bor, gTp_t, gsCons_c, seqQ_t, seqQ_l, seqQ_r, hideS_fz, hideS_own, hideS_bor, hideS_no, mmQ_ii, atI_0, atI_1, atI_2, List.map_cons, List.map_nil, List.replicate, List.cons_append, List.nil_append, List.append_nil, List.set, List.length_cons, List.length_nil, decide_eq_true_eq, if_true, if_false, Bool.not_true, Bool.not_false, Bool.false_eq_true, and_true, true_and, List.nodup_cons, List.not_mem_nil, not_false_eq_true, List.nodup_nil, List.mem_cons, or_false, List.getD])
  have hl : n.toNat < ds.length := by omega
  exact ⟨_, atI_nat n0 (List.getElem?_eq_getElem hl), hQ _ (List.getElem_mem hl) _ hJ'⟩
theorem w_oneT {o : OC} {ds : List D} {Q : Rv → List OC → Prop} {ED : Nat → D → Prop} (hJ : J o) (h0 : ds ≠ []) (h1 : ds.length ≤ 16777216) (hQ : ∀ d ∈ ds, ∀ o', J o' → Q (.fz d) [o']) : sp_one [.bor o, .fz (.tup ds)] Q ED := by
  refine ⟨rfl, ?_⟩
  (try simp only [dSeq, dIfS, dRet, dRetN, dNext, dSet, dSetO, dDrop, dCall, callQ, dCallKw, dCons, dNil, dBor, dsQ, dTup, dLst, dV, dC, slot, dOp, dUn, dCmp, dCmpT, dChain, dChainT, dTru, dAnd, dOr, dNot, dAndV, dOrV, dNotV, dIf, dIsi, dNoO, dSoO, dSl, bodyQ, endsOf, outsOf, lents, putB, lentQ, dAsg, gNm, gsNil, iSeq, iRng, DL.iRng2, iEnm, dLm, dLm0, dPut, dMm, dYes, hQ, isSub, hideE, pick_0, pick_10, pick_210, rep2, kg, dFor, dLc, wipeD, restD, dPar, ixN3_0, ixN3_1, ixN3_2, ex_some, dRaise_1, dHeard_e, List.set_cons_zero, List.set_cons_succ, rdQ_fz, rdQ_own, rdQ_at, rdS_fz, rdS_own, rdS_bor, frzQ_fz, frzQ_own, frzQ_at, frS_fz, frS_own, nmQ_s, nmS_fz, nmS_own, nmS_bor, retQ_fz, retQ_own, retQ_at, rtS_fz, rtS_own, argsOf_at, argsOf_d, argsOf_n, lnS_own, lnS_bor, lnS_fz, reS_o, reS_b, setF_d, setO_own, setO_fz, setO_at, notBor_fz, notBor_own, notBor_no, isOwn_own, isOwn_bor, addD_ii, addD_ss, addD_ll, addD_tt, subD_ii, mulD_ii, mulD_li, mulD_ti, fdivD_ii, modD_ii, powD_ii, negD_i, ltD_ii, leD_ii, gtD_ii, geD_ii, isQ_n, isQ_b, nisQ_n, isN_non, isN_bl, isN_int, isN_str, isN_tup, isN_lst, isN_rol, isN_dct, isT_int_non, isT_int_bl, isT_int_int, isT_int_str, isT_int_tup, isT_int_lst, isT_int_rol, isT_int_dct, isT_bool_non, isT_bool_bl, isT_bool_int, isT_bool_str, isT_bool_tup, isT_bool_lst, isT_bool_rol, isT_bool_dct, isT_str_non, isT_str_bl, isT_str_int, isT_str_str, isT_str_tup, isT_str_lst, isT_str_rol, isT_str_dct, isT_tuple_non, isT_tuple_bl, isT_tuple_int, isT_tuple_str, isT_tuple_tup, isT_tuple_lst, isT_tuple_rol, isT_tuple_dct, isT_list_non, isT_list_bl, isT_list_int, isT_list_str, isT_list_tup, isT_list_lst, isT_list_rol, isT_list_dct, isT_dict_non, isT_dict_bl, isT_dict_int, isT_dict_str, isT_dict_tup, isT_dict_lst, isT_dict_rol, isT_dict_dct, truQ_non, truQ_bl, truQ_int, truQ_tup, truQ_lst, blQ_bl, lenD_tup, lenD_lst, lenD_rol, lenD_str, tupD_tup, tupD_lst, lstD_tup, lstD_lst, lstD_rol, intD_i, intD_b, boolD_i, boolD_b, ixD_tup, ixD_lst, ixD_rol, slD_lst, slD_tup, intQ_i, appD_1, extD_1, lsQ_own, lsQ_bor, gTp_t, gsCons_c, seqQ_t, seqQ_l, seqQ_r, hideS_fz, hideS_own, hideS_bor, hideS_no, mmQ_ii, atI_0, atI_1, atI_2, List.map_cons, List.map_nil, List.replicate, List.cons_append, List.nil_append, List.append_nil, List.set, List.length_cons, List.length_nil, decide_eq_true_eq, if_true, if_false, Bool.not_true, Bool.not_false, Bool.false_eq_true, and_true, true_and, List.nodup_cons, List.not_mem_nil, not_false_eq_true, List.nodup_nil, List.mem_cons, or_false, List.getD, td_one])
  have hp : 0 < ds.length := List.length_pos_iff.mpr h0
  refine ⟨(by simp [lents, slot, Sl.isOwn]), w_take hJ (by omega) (lg (by omega) (by omega)) fun n o' hJ' n0 n1 => ?_⟩
  (try simp only [dSeq, dIfS, dRet, dRetN, dNext, dSet, dSetO, dDrop, dCall, callQ, dCallKw, dCons, dNil, dBor, dsQ, dTup, dLst, dV, dC, slot, dOp, dUn, dCmp, dCmpT, dChain, dChainT, dTru, dAnd, dOr, dNot, dAndV, dOrV, dNotV, dIf, dIsi, dNoO, dSoO, dSl, bodyQ, endsOf, outsOf, lents, putB, lentQ, dAsg, gNm, gsNil, iSeq, iRng, DL.iRng2, iEnm, dLm, dLm0, dPut, dMm, dYes, hQ, isSub, hideE, pick_0, pick_10, pick_210, rep2, kg, dFor, dLc, wipeD, restD, dPar, ixN3_0, ixN3_1, ixN3_2, ex_some, dRaise_1, dHeard_e, List.set_cons_zero, List.set_cons_succ, rdQ_fz, rdQ_own, rdQ_at, rdS_fz, rdS_own, rdS_bor, frzQ_fz, frzQ_own, frzQ_at, frS_fz, frS_own, nmQ_s, nmS_fz, nmS_own, nmS_bor, retQ_fz, retQ_own, retQ_at, rtS_fz, rtS_own, argsOf_at, argsOf_d, argsOf_n, lnS_own, lnS_bor, lnS_fz, reS_o, reS_b, setF_d, setO_own, setO_fz, setO_at, notBor_fz, notBor_own, notBor_no, isOwn_own, isOwn_bor, addD_ii, addD_ss, addD_ll, addD_tt, subD_ii, mulD_ii, mulD_li, mulD_ti, fdivD_ii, modD_ii, powD_ii, negD_i, ltD_ii, leD_ii, gtD_ii, geD_ii, isQ_n, isQ_b, nisQ_n, isN_non, isN_bl, isN_int, isN_str, isN_tup, isN_lst, isN_rol, isN_dct, isT_int_non, isT_int_bl, isT_int_int, isT_int_str, isT_int_tup, isT_int_lst, isT_int_rol, isT_int_dct, isT_bool_non, isT_bool_bl, isT_bool_int, isT_bool_str, isT_bool_tup, isT_bool_lst, isT_bool_rol, isT_bool_dct, isT_str_non, isT_str_bl, isT_str_int, isT_str_str, isT_str_tup, isT_str_lst, isT_str_rol, isT_str_dct, isT_tuple_non, isT_tuple_bl, isT_tuple_int, isT_tuple_str, isT_tuple_tup, isT_tuple_lst, isT_tuple_rol, isT_tuple_dct, isT_list_non, isT_list_bl, isT_list_int, isT_list_str, isT_list_tup, isT_list_lst, isT_list_rol, isT_list_dct, isT_dict_non, isT_dict_bl, isT_dict_int, isT_dict_str, isT_dict_tup, isT_dict_lst, isT_dict_rol, isT_dict_dct, truQ_non, truQ_bl, truQ_int, truQ_tup, truQ_lst, blQ_bl, lenD_tup, lenD_lst, lenD_rol, lenD_str, tupD_tup, tupD_lst, lstD_tup, lstD_lst, lstD_rol, intD_i, intD_b, boolD_i, boolD_b, ixD_tup, ixD_lst, ixD_rol, slD_lst, slD_tup, intQ_i, appD_1, extD_1, lsQ_own, lsQ_bor, gTp_t, gsCons_c, seqQ_t, seqQ_l, seqQ_r, hideS_fz, hideS_own, hideS_bor, hideS_no, mmQ_ii, atI_0, atI_1, atI_2, List.map_cons, List.map_nil, List.replicate, List.cons_append, List.nil_append, List.append_nil, List.set, List.length_cons, List.length_nil, decide_eq_true_eq, if_true, if_false, Bool.not_true, Bool.not_false, Bool.false_eq_true, and_true, true_and, List.nodup_cons, List.not_mem_nil, not_false_eq_true, List.nodup_nil, List.mem_cons, or_false, List.getD])
  have hl : n.toNat < ds.length := by omega
  exact ⟨_, atI_nat n0 (List.getElem?_eq_getElem hl), hQ _ (List.getElem_mem hl) _ hJ'⟩
theorem w_between {d : D} {l m : Int} {Q : Rv → List OC → Prop} {ED : Nat → D → Prop} (hQ : Q (.fz (.bl (betw l m d))) []) : sp_is_between [.fz d, .fz (.int l), .fz (.int m)] Q ED := by
  refine ⟨rfl, ?_⟩
  cases d <;> (try simp only [dSeq, dIfS, dRet, dRetN, dNext, dSet, dSetO, dDrop, dCall, callQ, dCallKw, dCons, dNil, dBor, dsQ, dTup, dLst, dV, dC, slot, dOp, dUn, dCmp, dCmpT, dChain, dChainT, dTru, dAnd, dOr, dNot, dAndV, dOrV, dNotV, dIf, dIsi, dNoO, dSoO, dSl, bodyQ, endsOf, outsOf, lents, putB, lentQ, dAsg, gNm, gsNil, iSeq, iRng, DL.iRng2, iEnm, dLm, dLm0, dPut, dMm, dYes, hQ, isSub, hideE, pick_0, pick_10, pick_210, rep2, kg, dFor, dLc, wipeD, restD, dPar, ixN3_0, ixN3_1, ixN3_2, ex_some, dRaise_1, dHeard_e, List.set_cons_zero, List.set_cons_succ, rdQ_fz, rdQ_own, rdQ_at, rdS_fz, rdS_own, rdS_bor, frzQ_fz, frzQ_own, frzQ_at, frS_fz, frS_own, nmQ_s, nmS_fz, nmS_own, nmS_bor, retQ_fz, retQ_own, retQ_at, rtS_fz, rtS_own, argsOf_at, argsOf_d, argsOf_n, lnS_own, lnS_bor, lnS_fz, reS_o, reS_b, setF_d, setO_own, setO_fz, setO_at, notBor_fz, notBor_own, notBor_no, isOwn_own, isOwn_bor, addD_ii, addD_ss, addD_ll, addD_tt, subD_ii, mulD_ii, mulD_li, mulD_ti, fdivD_ii, modD_ii, powD_ii, negD_i, ltD_ii, leD_ii, gtD_ii, geD_ii, isQ_n, isQ_b, nisQ_n, isN_non, isN_bl, isN_int, isN_str, isN_tup, isN_lst, isN_rol, isN_dct, isT_int_non, isT_int_bl, isT_int_int, isT_int_str, isT_int_tup, isT_int_lst, isT_int_rol, isT_int_dct, isT_bool_non, isT_bool_bl, isT_bool_int, isT_bool_str, isT_bool_tup, isT_bool_lst, isT_bool_rol, isT_bool_dct, isT_str_non, isT_str_bl, isT_str_int, isT_str_str, isT_str_tup, isT_str_lst, isT_str_rol, isT_str_dct, isT_tuple_non, isT_tuple_bl, isT_tuple_int, isT_tuple_str, isT_tuple_tup, isT_tuple_lst, isT_tuple_rol, isT_tuple_dct, isT_list_non, isT_list_bl, isT_list_int, isT_list_str, isT_list_tup, isT_list_lst, isT_list_rol, isT_list_dct, isT_dict_non, isT_dict_bl, isT_dict_int, isT_dict_str, isT_dict_tup, isT_dict_lst, isT_dict_rol, isT_dict_dct, truQ_non, truQ_bl, truQ_int, truQ_tup, truQ_lst, blQ_bl, lenD_tup, lenD_lst, lenD_rol, lenD_str, tupD_tup, tupD_lst, lstD_tup, lstD_lst, lstD_rol, intD_i, intD_b, boolD_i, boolD_b, ixD_tup, ixD_lst, ixD_rol, slD_lst, slD_tup, intQ_i, appD_1, extD_1, lsQ_own, lsQ_bor, gTp_t, gsCons_c, seqQ_t, seqQ_l, seqQ_r, hideS_fz, hideS_own, hideS_bor, hideS_no, mmQ_ii, atI_0, atI_1, atI_2, List.map_cons, List.map_nil, List.replicate, List.cons_append, List.nil_append, List.append_nil, List.set, List.length_cons, List.length_nil, decide_eq_true_eq, if_true, if_false, Bool.not_true, Bool.not_false, Bool.false_eq_true, and_true, true_and, List.nodup_cons, List.not_mem_nil, not_false_eq_true, List.nodup_nil, List.mem_cons, or_false, List.getD, td_is_between])
  case int i =>
    unfold betw at hQ
    split
    · rename_i h; simpa [h] using hQ
    · rename_i h; simpa [h] using hQ
  all_goals exact hQ
theorem w_below {d : D} {m : Int} {Q : Rv → List OC → Prop} {ED : Nat → D → Prop} (hQ : Q (.fz (.bl (betw 0 (m - 1) d))) []) : sp_is_below [.fz d, .fz (.int m)] Q ED := by
  refine ⟨rfl, ?_⟩
  (try simp only [dSeq, dIfS, dRet, dRetN, dNext, dSet, dSetO, dDrop, dCall, callQ, dCallKw, dCons, dNil, dBor, dsQ, dTup, dLst, dV, dC, slot, dOp, dUn, dCmp, dCmpT, dChain, dChainT, dTru, dAnd, dOr, dNot, dAndV, dOrV, dNotV, dIf, dIsi, dNoO, dSoO, dSl, bodyQ, endsOf, outsOf, lents, putB, lentQ, dAsg, gNm, gsNil, iSeq, iRng, DL.iRng2, iEnm, dLm, dLm0, dPut, dMm, dYes, hQ, isSub, hideE, pick_0, pick_10, pick_210, rep2, kg, dFor, dLc, wipeD, restD, dPar, ixN3_0, ixN3_1, ixN3_2, ex_some, dRaise_1, dHeard_e, List.set_cons_zero, List.set_cons_succ, rdQ_fz, rdQ_own, rdQ_at, rdS_fz, rdS_own, rdS_bor, frzQ_fz, frzQ_own, frzQ_at, frS_fz, frS_own, nmQ_s, nmS_fz, nmS_own, nmS_bor, retQ_fz, retQ_own, retQ_at, rtS_fz, rtS_own, argsOf_at, argsOf_d, argsOf_n, lnS_own, lnS_bor, lnS_fz, reS_o, reS_b, setF_d, setO_own, setO_fz, setO_at, notBor_fz, notBor_own, notBor_no, isOwn_own, isOwn_bor, addD_ii, addD_ss, addD_ll, addD_tt, subD_ii, mulD_ii, mulD_li, mulD_ti, fdivD_ii, modD_ii, powD_ii, negD_i, ltD_ii, leD_ii, gtD_ii, geD_ii, isQ_n, isQ_b, nisQ_n, isN_non, isN_bl, isN_int, isN_str, isN_tup, isN_lst, isN_rol, isN_dct, isT_int_non, isT_int_bl, isT_int_int, isT_int_str, isT_int_tup, isT_int_lst, isT_int_rol, isT_int_dct, isT_bool_non, isT_bool_bl, isT_bool_int, isT_bool_str, isT_bool_tup, isT_bool_lst, isT_bool_rol, isT_bool_dct, isT_str_non, isT_str_bl, isT_str_int, isT_str_str, isT_str_tup, isT_str_lst, isT_str_rol, isT_str_dct, isT_tuple_non, isT_tuple_bl, isT_tuple_int, isT_tuple_str, isT_tuple_tup, isT_tuple_lst, isT_tuple_rol, isT_tuple_dct, isT_list_non, isT_list_bl, isT_list_int, isT_list_str, isT_list_tup, isT_list_lst, isT_list_rol, isT_list_dct, isT_dict_non, isT_dict_bl, isT_dict_int, isT_dict_str, isT_dict_tup, isT_dict_lst, isT_dict_rol, isT_dict_dct, truQ_non, truQ_bl, truQ_int, truQ_tup, truQ_lst, blQ_bl, lenD_tup, lenD_lst, lenD_rol, lenD_str, tupD_tup, tupD_lst, lstD_tup, lstD_lst, lstD_rol, intD_i, intD_b, boolD_i, boolD_b, ixD_tup, ixD_lst, ixD_rol, slD_lst, slD_tup, intQ_i, appD_1, extD_1, lsQ_own, lsQ_bor, gTp_t, gsCons_c, seqQ_t, seqQ_l, seqQ_r, hideS_fz, hideS_own, hideS_bor, hideS_no, mmQ_ii, atI_0, atI_1, atI_2, List.map_cons, List.map_nil, List.replicate, List.cons_append, List.nil_append, List.append_nil, List.set, List.length_cons, List.length_nil, decide_eq_true_eq, if_true, if_false, Bool.not_true, Bool.not_false, Bool.false_eq_true, and_true, true_and, List.nodup_cons, List.not_mem_nil, not_false_eq_true, List.nodup_nil, List.mem_cons, or_false, List.getD, td_is_below])
  exact ⟨(by simp [lents, slot, Sl.isOwn]), w_between hQ⟩
theorem w_whole {d : D} {Q : Rv → List OC → Prop} {ED : Nat → D → Prop} (hQ : Q (.fz (.bl (match d with | .int _ => true | _ => false))) []) : sp_yq_is_whole [.fz d] Q ED := by
  refine ⟨rfl, ?_⟩
  cases d <;> (try simp only [dSeq, dIfS, dRet, dRetN, dNext, dSet, dSetO, dDrop, dCall, callQ, dCallKw, dCons, dNil, dBor, dsQ, dTup, dLst, dV, dC, slot, dOp, dUn, dCmp, dCmpT, dChain, dChainT, dTru, dAnd, dOr, dNot, dAndV, dOrV, dNotV, dIf, dIsi, dNoO, dSoO, dSl, bodyQ, endsOf, outsOf, lents, putB, lentQ, dAsg, gNm, gsNil, iSeq, iRng, DL.iRng2, iEnm, dLm, dLm0, dPut, dMm, dYes, hQ, isSub, hideE, pick_0, pick_10, pick_210, rep2, kg, dFor, dLc, wipeD, restD, dPar, ixN3_0, ixN3_1, ixN3_2, ex_some, dRaise_1, dHeard_e, List.set_cons_zero, List.set_cons_succ, rdQ_fz, rdQ_own, rdQ_at, rdS_fz, rdS_own, rdS_bor, frzQ_fz, frzQ_own, frzQ_at, frS_fz, frS_own, nmQ_s, nmS_fz, nmS_own, nmS_bor, retQ_fz, retQ_own, retQ_at, rtS_fz, rtS_own, argsOf_at, argsOf_d, argsOf_n, lnS_own, lnS_bor, lnS_fz, reS_o, reS_b, setF_d, setO_own, setO_fz, setO_at, notBor_fz, notBor_own, notBor_no, isOwn_own, isOwn_bor, addD_ii, addD_ss, addD_ll, addD_tt, subD_ii, mulD_ii, mulD_li, mulD_ti, fdivD_ii, modD_ii, powD_ii, negD_i, ltD_ii, leD_ii, gtD_ii, geD_ii, isQ_n, isQ_b, nisQ_n, isN_non, isN_bl, isN_int, isN_str, isN_tup, isN_lst, isN_rol, isN_dct, isT_int_non, isT_int_bl, isT_int_int, isT_int_str, isT_int_tup, isT_int_lst, isT_int_rol, isT_int_dct, isT_bool_non, isT_bool_bl, isT_bool_int, isT_bool_str, isT_bool_tup, isT_bool_lst, isT_bool_rol, isT_bool_dct, isT_str_non, isT_str_bl, isT_str_int, isT_str_str, isT_str_tup, isT_str_lst, isT_str_rol, isT_str_dct, isT_tuple_non, isT_tuple_bl, isT_tuple_int, isT_tuple_str, isT_tuple_tup, isT_tuple_lst, isT_tuple_rol, isT_tuple_dct, isT_list_non, isT_list_bl, isT_list_int, isT_list_str, isT_list_tup, isT_list_lst, isT_list_rol, isT_list_dct, isT_dict_non, isT_dict_bl, isT_dict_int, isT_dict_str, isT_dict_tup, isT_dict_lst, isT_dict_rol, isT_dict_dct, truQ_non, truQ_bl, truQ_int, truQ_tup, truQ_lst, blQ_bl, lenD_tup, lenD_lst, lenD_rol, lenD_str, tupD_tup, tupD_lst, lstD_tup, lstD_lst, lstD_rol, intD_i, intD_b, boolD_i, boolD_b, ixD_tup, ixD_lst, ixD_rol, slD_lst, slD_tup, intQ_i, appD_1, extD_1, lsQ_own, lsQ_bor, gTp_t, gsCons_c, seqQ_t, seqQ_l, seqQ_r, hideS_fz, hideS_own, hideS_bor, hideS_no, mmQ_ii, atI_0, atI_1, atI_2, List.map_cons, List.map_nil, List.replicate, List.cons_append, List.nil_append, List.append_nil, List.set, List.length_cons, List.length_nil, decide_eq_true_eq, if_true, if_false, Bool.not_true, Bool.not_false, Bool.false_eq_true, and_true, true_and, List.nodup_cons, List.not_mem_nil, not_false_eq_true, List.nodup_nil, List.mem_cons, or_false, List.getD, td_yq_is_whole]) <;> exact hQ
def p6 : Nat → D → Bool := fun _ d => betw 1 6 d
def wsD : D → D
  | .tup ds => if 1 ≤ ds.length ∧ ds.length ≤ 24 then firstN p6 0 ds else .int (-1)
  | _ => .int (-1)
theorem w_wrong_size {d : D} {Q : Rv → List OC → Prop} {ED : Nat → D → Prop} (hQ : Q (.fz (wsD d)) []) : sp_wrong_size [.fz d] Q ED := by
  refine ⟨rfl, ?_⟩
  cases d
  case tup ds =>
    (try simp only [dSeq, dIfS, dRet, dRetN, dNext, dSet, dSetO, dDrop, dCall, callQ, dCallKw, dCons, dNil, dBor, dsQ, dTup, dLst, dV, dC, slot, dOp, dUn, dCmp, dCmpT, dChain, dChainT, dTru, dAnd, dOr, dNot, dAndV, dOrV, dNotV, dIf, dIsi, dNoO, dSoO, dSl, bodyQ, endsOf, outsOf, lents, putB, lentQ, dAsg, gNm, gsNil, iSeq, iRng, DL.iRng2, iEnm, dLm, dLm0, dPut, dMm, dYes, hQ, isSub, hideE, pick_0, pick_10, pick_210, rep2, kg, dFor, dLc, wipeD, restD, dPar, ixN3_0, ixN3_1, ixN3_2, ex_some, dRaise_1, dHeard_e, List.set_cons_zero, List.set_cons_succ, rdQ_fz, rdQ_own, rdQ_at, rdS_fz, rdS_own, rdS_bor, frzQ_fz, frzQ_own, frzQ_at, frS_fz, frS_own, nmQ_s, nmS_fz, nmS_own, nmS_bor, retQ_fz, retQ_own, retQ_at, rtS_fz, rtS_own, argsOf_at, argsOf_d, argsOf_n, lnS_own, lnS_bor, lnS_fz, reS_o, reS_b, setF_d, setO_own, setO_fz, setO_at, notBor_fz, notBor_own, notBor_no, isOwn_own, isOwn_bor, addD_ii, addD_ss, addD_ll, addD_tt, subD_ii, mulD_ii, mulD_li, mulD_ti, fdivD_ii, modD_ii, powD_ii, negD_i, ltD_ii, leD_ii, gtD_ii, geD_ii, isQ_n, isQ_b, nisQ_n, isN_non, isN_bl, isN_int, isN_str, isN_tup, isN_lst, isN_rol, isN_dct, isT_int_non, isT_int_bl, isT_int_int, isT_int_str, isT_int_tup, isT_int_lst, isT_int_rol, isT_int_dct, isT_bool_non, isT_bool_bl, isT_bool_int, isT_bool_str, isT_bool_tup, isT_bool_lst, isT_bool_rol, isT_bool_dct, isT_str_non, isT_str_bl, isT_str_int, isT_str_str, isT_str_tup, isT_str_lst, isT_str_rol, isT_str_dct, isT_tuple_non, isT_tuple_bl, isT_tuple_int, isT_tuple_str, isT_tuple_tup, isT_tuple_lst, isT_tuple_rol, isT_tuple_dct, isT_list_non, isT_list_bl, isT_list_int, isT_list_str, isT_list_tup, isT_list_lst, isT_list_rol, isT_list_dct, isT_dict_non, isT_dict_bl, isT_dict_int, isT_dict_str, isT_dict_tup, isT_dict_lst, isT_dict_rol, isT_dict_dct, truQ_non, truQ_bl, truQ_int, truQ_tup, truQ_lst, blQ_bl, lenD_tup, lenD_lst, lenD_rol, lenD_str, tupD_tup, tupD_lst, lstD_tup, lstD_lst, lstD_rol, intD_i, intD_b, boolD_i, boolD_b, ixD_tup, ixD_lst, ixD_rol, slD_lst, slD_tup, intQ_i, appD_1, extD_1, lsQ_own, lsQ_bor, gTp_t, gsCons_c, seqQ_t, seqQ_l, seqQ_r, hideS_fz, hideS_own, hideS_bor, hideS_no, mmQ_ii, atI_0, atI_1, atI_2, List.map_cons, List.map_nil, List.replicate, List.cons_append, List.nil_append, List.append_nil, List.set, List.length_cons, List.length_nil, decide_eq_true_eq, if_true, if_false, Bool.not_true, Bool.not_false, Bool.false_eq_true, and_true, true_and, List.nodup_cons, List.not_mem_nil, not_false_eq_true, List.nodup_nil, List.mem_cons, or_false, List.getD, td_wrong_size])
    refine ⟨(by simp [lents, slot, Sl.isOwn]), w_between ?_⟩
    (try simp only [dSeq, dIfS, dRet, dRetN, dNext, dSet, dSetO, dDrop, dCall, callQ, dCallKw, dCons, dNil, dBor, dsQ, dTup, dLst, dV, dC, slot, dOp, dUn, dCmp, dCmpT, dChain, dChainT, dTru, dAnd, dOr, dNot, dAndV, dOrV, dNotV, dIf, dIsi, dNoO, dSoO, dSl, bodyQ, endsOf, outsOf, lents, putB, lentQ, dAsg, gNm, gsNil, iSeq, iRng, DL.iRng2, iEnm, dLm, dLm0, dPut, dMm, dYes, hQ, isSub, hideE, pick_0, pick_10, pick_210, rep2, kg, dFor, dLc, wipeD, restD, dPar, ixN3_0, ixN3_1, ixN3_2, ex_some, dRaise_1, dHeard_e, List.set_cons_zero, List.set_cons_succ, rdQ_fz, rdQ_own, rdQ_at, rdS_fz, rdS_own, rdS_bor, frzQ_fz, frzQ_own, frzQ_at, frS_fz, frS_own, nmQ_s, nmS_fz, nmS_own, nmS_bor, retQ_fz, retQ_own, retQ_at, rtS_fz, rtS_own, argsOf_at, argsOf_d, argsOf_n, lnS_own, lnS_bor, lnS_fz, reS_o, reS_b, setF_d, setO_own, setO_fz, setO_at, notBor_fz, notBor_own, notBor_no, isOwn_own, isOwn_bor, addD_ii, addD_ss, addD_ll, addD_tt, subD_ii, mulD_ii, mulD_li, mulD_ti, fdivD_ii, modD_ii, powD_ii, negD_i, ltD_ii, leD_ii, gtD_ii, geD_ii, isQ_n, isQ_b, nisQ_n, isN_non, isN_bl, isN_int, isN_str, isN_tup, isN_lst, isN_rol, isN_dct, isT_int_non, isT_int_bl, isT_int_int, isT_int_str, isT_int_tup, isT_int_lst, isT_int_rol, isT_int_dct, isT_bool_non, isT_bool_bl, isT_bool_int, isT_bool_str, isT_bool_tup, isT_bool_lst, isT_bool_rol, isT_bool_dct, isT_str_non, isT_str_bl, isT_str_int, isT_str_str, isT_str_tup, isT_str_lst, isT_str_rol, isT_str_dct, isT_tuple_non, isT_tuple_bl, isT_tuple_int, isT_tuple_str, isT_tuple_tup, isT_tuple_lst, isT_tuple_rol, isT_tuple_dct, isT_list_non, isT_list_bl, isT_list_int, isT_list_str, isT_list_tup, isT_list_lst, isT_list_rol, isT_list_dct, isT_dict_non, isT_dict_bl, isT_dict_int, isT_dict_str, isT_dict_tup, isT_dict_lst, isT_dict_rol, isT_dict_dct, truQ_non, truQ_bl, truQ_int, truQ_tup, truQ_lst, blQ_bl, lenD_tup, lenD_lst, lenD_rol, lenD_str, tupD_tup, tupD_lst, lstD_tup, lstD_lst, lstD_rol, intD_i, intD_b, boolD_i, boolD_b, ixD_tup, ixD_lst, ixD_rol, slD_lst, slD_tup, intQ_i, appD_1, extD_1, lsQ_own, lsQ_bor, gTp_t, gsCons_c, seqQ_t, seqQ_l, seqQ_r, hideS_fz, hideS_own, hideS_bor, hideS_no, mmQ_ii, atI_0, atI_1, atI_2, List.map_cons, List.map_nil, List.replicate, List.cons_append, List.nil_append, List.append_nil, List.set, List.length_cons, List.length_nil, decide_eq_true_eq, if_true, if_false, Bool.not_true, Bool.not_false, Bool.false_eq_true, and_true, true_and, List.nodup_cons, List.not_mem_nil, not_false_eq_true, List.nodup_nil, List.mem_cons, or_false, List.getD])
    dsimp only [wsD] at hQ
    by_cases hc : 1 ≤ ds.length ∧ ds.length ≤ 24
    · rw [if_pos hc] at hQ
      have e : betw 1 24 (.int (ds.length : Nat)) = true := by unfold betw; simp; omega
      (try simp only [dSeq, dIfS, dRet, dRetN, dNext, dSet, dSetO, dDrop, dCall, callQ, dCallKw, dCons, dNil, dBor, dsQ, dTup, dLst, dV, dC, slot, dOp, dUn, dCmp, dCmpT, dChain, dChainT, dTru, dAnd, dOr, dNot, dAndV, dOrV, dNotV, dIf, dIsi, dNoO, dSoO, dSl, bodyQ, endsOf, outsOf, lents, putB, lentQ, dAsg, gNm, gsNil, iSeq, iRng, DL.iRng2, iEnm, dLm, dLm0, dPut, dMm, dYes, hQ, isSub, hideE, pick_0, pick_10, pick_210, rep2, kg, dFor, dLc, wipeD, restD, dPar, ixN3_0, ixN3_1, ixN3_2, ex_some, dRaise_1, dHeard_e, List.set_cons_zero, List.set_cons_succ, rdQ_fz, rdQ_own, rdQ_at, rdS_fz, rdS_own, rdS_bor, frzQ_fz, frzQ_own, frzQ_at, frS_fz, frS_own, nmQ_s, nmS_fz, nmS_own, nmS_bor, retQ_fz, retQ_own, retQ_at, rtS_fz, rtS_own, argsOf_at, argsOf_d, argsOf_n, lnS_own, lnS_bor, lnS_fz, reS_o, reS_b, setF_d, setO_own, setO_fz, setO_at, notBor_fz, notBor_own, notBor_no, isOwn_own, isOwn_bor, addD_ii, addD_ss, addD_ll, addD_tt, subD_ii, mulD_ii, mulD_li, mulD_ti, fdivD_ii, modD_ii, powD_ii, negD_i, ltD_ii, leD_ii, gtD_ii, geD_ii, isQ_n, isQ_b, nisQ_n, isN_non, isN_bl, isN_int, isN_str, isN_tup, isN_lst, isN_rol, isN_dct, isT_int_non, isT_int_bl, isT_int_int, isT_int_str, isT_int_tup, isT_int_lst, isT_int_rol, isT_int_dct, isT_bool_non, isT_bool_bl, isT_bool_int, isT_bool_str, isT_bool_tup, isT_bool_lst, isT_bool_rol, isT_bool_dct, isT_str_non, isT_str_bl, isT_str_int, isT_str_str, isT_str_tup, isT_str_lst, isT_str_rol, isT_str_dct, isT_tuple_non, isT_tuple_bl, isT_tuple_int, isT_tuple_str, isT_tuple_tup, isT_tuple_lst, isT_tuple_rol, isT_tuple_dct, isT_list_non, isT_list_bl, isT_list_int, isT_list_str, isT_list_tup, isT_list_lst, isT_list_rol, isT_list_dct, isT_dict_non, isT_dict_bl, isT_dict_int, isT_dict_str, isT_dict_tup, isT_dict_lst, isT_dict_rol, isT_dict_dct, truQ_non, truQ_bl, truQ_int, truQ_tup, truQ_lst, blQ_bl, lenD_tup, lenD_lst, lenD_rol, lenD_str, tupD_tup, tupD_lst, lstD_tup, lstD_lst, lstD_rol, intD_i, intD_b, boolD_i, boolD_b, ixD_tup, ixD_lst, ixD_rol, slD_lst, slD_tup, intQ_i, appD_1, extD_1, lsQ_own, lsQ_bor, gTp_t, gsCons_c, seqQ_t, seqQ_l, seqQ_r, hideS_fz, hideS_own, hideS_bor, hideS_no, mmQ_ii, atI_0, atI_1, atI_2, List.map_cons, List.map_nil, List.replicate, List.cons_append, List.nil_append, List.append_nil, List.set, List.length_cons, List.length_nil, decide_eq_true_eq, if_true, if_false, Bool.not_true, Bool.not_false, Bool.false_eq_true, and_true, true_and, List.nodup_cons, List.not_mem_nil, not_false_eq_true, List.nodup_nil, List.mem_cons, or_false, List.getD, e])
      refine forL_ind (Inv := fun rest η => ∃ i ys s1 s2, rest = enmD i ys ∧ η = [.fz (.tup ds), s1, s2] ∧ notBor s1 = true ∧ notBor s2 = true ∧ Q (.fz (firstN p6 i ys)) []) ?_ ?_ _ _ ⟨0, ds, .no, .no, rfl, rfl, rfl, rfl, hQ⟩
      · rintro η ⟨i, ys, s1, s2, h1, rfl, b1, b2, q⟩
        cases ys with
        | nil => (try simp only [dSeq, dIfS, dRet, dRetN, dNext, dSet, dSetO, dDrop, dCall, callQ, dCallKw, dCons, dNil, dBor, dsQ, dTup, dLst, dV, dC, slot, dOp, dUn, dCmp, dCmpT, dChain, dChainT, dTru, dAnd, dOr, dNot, dAndV, dOrV, dNotV, dIf, dIsi, dNoO, dSoO, dSl, bodyQ, endsOf, outsOf, lents, putB, lentQ, dAsg, gNm, gsNil, iSeq, iRng, DL.iRng2, iEnm, dLm, dLm0, dPut, dMm, dYes, hQ, isSub, hideE, pick_0, pick_10, pick_210, rep2, kg, dFor, dLc, wipeD, restD, dPar, ixN3_0, ixN3_1, ixN3_2, ex_some, dRaise_1, dHeard_e, List.set_cons_zero, List.set_cons_succ, rdQ_fz, rdQ_own, rdQ_at, rdS_fz, rdS_own, rdS_bor, frzQ_fz, frzQ_own, frzQ_at, frS_fz, frS_own, nmQ_s, nmS_fz, nmS_own, nmS_bor, retQ_fz, retQ_own, retQ_at, rtS_fz, rtS_own, argsOf_at, argsOf_d, argsOf_n, lnS_own, lnS_bor, lnS_fz, reS_o, reS_b, setF_d, setO_own, setO_fz, setO_at, notBor_fz, notBor_own, notBor_no, isOwn_own, isOwn_bor, addD_ii, addD_ss, addD_ll, addD_tt, subD_ii, mulD_ii, mulD_li, mulD_ti, fdivD_ii, modD_ii, powD_ii, negD_i, ltD_ii, leD_ii, gtD_ii, geD_ii, isQ_n, isQ_b, nisQ_n, isN_non, isN_bl, isN_int, isN_str, isN_tup, isN_lst, isN_rol, isN_dct, isT_int_non, isT_int_bl, isT_int_int, isT_int_str, isT_int_tup, isT_int_lst, isT_int_rol, isT_int_dct, isT_bool_non, isT_bool_bl, isT_bool_int, isT_bool_str, isT_bool_tup, isT_bool_lst, isT_bool_rol, isT_bool_dct, isT_str_non, isT_str_bl, isT_str_int, isT_str_str, isT_str_tup, isT_str_lst, isT_str_rol, isT_str_dct, isT_tuple_non, isT_tuple_bl, isT_tuple_int, isT_tuple_str, isT_tuple_tup, isT_tuple_lst, isT_tuple_rol, isT_tuple_dct, isT_list_non, isT_list_bl, isT_list_int, isT_list_str, isT_list_tup, isT_list_lst, isT_list_rol, isT_list_dct, isT_dict_non, isT_dict_bl, isT_dict_int, isT_dict_str, isT_dict_tup, isT_dict_lst, isT_dict_rol, isT_dict_dct, truQ_non, truQ_bl, truQ_int, truQ_tup, truQ_lst, blQ_bl, lenD_tup, lenD_lst, lenD_rol, lenD_str, tupD_tup, tupD_lst, lstD_tup, lstD_lst, lstD_rol, intD_i, intD_b, boolD_i, boolD_b, ixD_tup, ixD_lst, ixD_rol, slD_lst, slD_tup, intQ_i, appD_1, extD_1, lsQ_own, lsQ_bor, gTp_t, gsCons_c, seqQ_t, seqQ_l, seqQ_r, hideS_fz, hideS_own, hideS_bor, hideS_no, mmQ_ii, atI_0, atI_1, atI_2, List.map_cons, List.map_nil, List.replicate, List.cons_append, List.nil_append, List.append_nil, List.set, List.length_cons, List.length_nil, decide_eq_true_eq, if_true, if_false, Bool.not_true, Bool.not_false, Bool.false_eq_true, and_true, true_and, List.nodup_cons, List.not_mem_nil, not_false_eq_true, List.nodup_nil, List.mem_cons, or_false, List.getD]); exact q
        | cons y ys => cases h1
      · rintro d rest η K ⟨i, ys, s1, s2, h1, rfl, b1, b2, q⟩ hK
        cases ys with
        | nil => cases h1
        | cons y ys =>
          obtain ⟨rfl, rfl⟩ := List.cons.inj h1
          (try simp only [dSeq, dIfS, dRet, dRetN, dNext, dSet, dSetO, dDrop, dCall, callQ, dCallKw, dCons, dNil, dBor, dsQ, dTup, dLst, dV, dC, slot, dOp, dUn, dCmp, dCmpT, dChain, dChainT, dTru, dAnd, dOr, dNot, dAndV, dOrV, dNotV, dIf, dIsi, dNoO, dSoO, dSl, bodyQ, endsOf, outsOf, lents, putB, lentQ, dAsg, gNm, gsNil, iSeq, iRng, DL.iRng2, iEnm, dLm, dLm0, dPut, dMm, dYes, hQ, isSub, hideE, pick_0, pick_10, pick_210, rep2, kg, dFor, dLc, wipeD, restD, dPar, ixN3_0, ixN3_1, ixN3_2, ex_some, dRaise_1, dHeard_e, List.set_cons_zero, List.set_cons_succ, rdQ_fz, rdQ_own, rdQ_at, rdS_fz, rdS_own, rdS_bor, frzQ_fz, frzQ_own, frzQ_at, frS_fz, frS_own, nmQ_s, nmS_fz, nmS_own, nmS_bor, retQ_fz, retQ_own, retQ_at, rtS_fz, rtS_own, argsOf_at, argsOf_d, argsOf_n, lnS_own, lnS_bor, lnS_fz, reS_o, reS_b, setF_d, setO_own, setO_fz, setO_at, notBor_fz, notBor_own, notBor_no, isOwn_own, isOwn_bor, addD_ii, addD_ss, addD_ll, addD_tt, subD_ii, mulD_ii, mulD_li, mulD_ti, fdivD_ii, modD_ii, powD_ii, negD_i, ltD_ii, leD_ii, gtD_ii, geD_ii, isQ_n, isQ_b, nisQ_n, isN_non, isN_bl, isN_int, isN_str, isN_tup, isN_lst, isN_rol, isN_dct, isT_int_non, isT_int_bl, isT_int_int, isT_int_str, isT_int_tup, isT_int_lst, isT_int_rol, isT_int_dct, isT_bool_non, isT_bool_bl, isT_bool_int, isT_bool_str, isT_bool_tup, isT_bool_lst, isT_bool_rol, isT_bool_dct, isT_str_non, isT_str_bl, isT_str_int, isT_str_str, isT_str_tup, isT_str_lst, isT_str_rol, isT_str_dct, isT_tuple_non, isT_tuple_bl, isT_tuple_int, isT_tuple_str, isT_tuple_tup, isT_tuple_lst, isT_tuple_rol, isT_tuple_dct, isT_list_non, isT_list_bl, isT_list_int, isT_list_str, isT_list_tup, isT_list_lst, isT_list_rol, isT_list_dct, isT_dict_non, isT_dict_bl, isT_dict_int, isT_dict_str, isT_dict_tup, isT_dict_lst, isT_dict_rol, isT_dict_dct, truQ_non, truQ_bl, truQ_int, truQ_tup, truQ_lst, blQ_bl, lenD_tup, lenD_lst, lenD_rol, lenD_str, tupD_tup, tupD_lst, lstD_tup, lstD_lst, lstD_rol, intD_i, intD_b, boolD_i, boolD_b, ixD_tup, ixD_lst, ixD_rol, slD_lst, slD_tup, intQ_i, appD_1, extD_1, lsQ_own, lsQ_bor, gTp_t, gsCons_c, seqQ_t, seqQ_l, seqQ_r, hideS_fz, hideS_own, hideS_bor, hideS_no, mmQ_ii, atI_0, atI_1, atI_2, List.map_cons, List.map_nil, List.replicate, List.cons_append, List.nil_append, List.append_nil, List.set, List.length_cons, List.length_nil, decide_eq_true_eq, if_true, if_false, Bool.not_true, Bool.not_false, Bool.false_eq_true, and_true, true_and, List.nodup_cons, List.not_mem_nil, not_false_eq_true, List.nodup_nil, List.mem_cons, or_false, List.getD, b1, b2])
          refine ⟨(by simp [lents, slot, Sl.isOwn]), w_between ?_⟩
          (try simp only [dSeq, dIfS, dRet, dRetN, dNext, dSet, dSetO, dDrop, dCall, callQ, dCallKw, dCons, dNil, dBor, dsQ, dTup, dLst, dV, dC, slot, dOp, dUn, dCmp, dCmpT, dChain, dChainT, dTru, dAnd, dOr, dNot, dAndV, dOrV, dNotV, dIf, dIsi, dNoO, dSoO, dSl, bodyQ, endsOf, outsOf, lents, putB, lentQ, dAsg, gNm, gsNil, iSeq, iRng, DL.iRng2, iEnm, dLm, dLm0, dPut, dMm, dYes, hQ, isSub, hideE, pick_0, pick_10, pick_210, rep2, kg, dFor, dLc, wipeD, restD, dPar, ixN3_0, ixN3_1, ixN3_2, ex_some, dRaise_1, dHeard_e, List.set_cons_zero, List.set_cons_succ, rdQ_fz, rdQ_own, rdQ_at, rdS_fz, rdS_own, rdS_bor, frzQ_fz, frzQ_own, frzQ_at, frS_fz, frS_own, nmQ_s, nmS_fz, nmS_own, nmS_bor, retQ_fz, retQ_own, retQ_at, rtS_fz, rtS_own, argsOf_at, argsOf_d, argsOf_n, lnS_own, lnS_bor, lnS_fz, reS_o, reS_b, setF_d, setO_own, setO_fz, setO_at, notBor_fz, notBor_own, notBor_no, isOwn_own, isOwn_bor, addD_ii, addD_ss, addD_ll, addD_tt, subD_ii, mulD_ii, mulD_li, mulD_ti, fdivD_ii, modD_ii, powD_ii, negD_i, ltD_ii, leD_ii, gtD_ii, geD_ii, isQ_n, isQ_b, nisQ_n, isN_non, isN_bl, isN_int, isN_str, isN_tup, isN_lst, isN_rol, isN_dct, isT_int_non, isT_int_bl, isT_int_int, isT_int_str, isT_int_tup, isT_int_lst, isT_int_rol, isT_int_dct, isT_bool_non, isT_bool_bl, isT_bool_int, isT_bool_str, isT_bool_tup, isT_bool_lst, isT_bool_rol, isT_bool_dct, isT_str_non, isT_str_bl, isT_str_int, isT_str_str, isT_str_tup, isT_str_lst, isT_str_rol, isT_str_dct, isT_tuple_non, isT_tuple_bl, isT_tuple_int, isT_tuple_str, isT_tuple_tup, isT_tuple_lst, isT_tuple_rol, isT_tuple_dct, isT_list_non, isT_list_bl, isT_list_int, isT_list_str, isT_list_tup, isT_list_lst, isT_list_rol, isT_list_dct, isT_dict_non, isT_dict_bl, isT_dict_int, isT_dict_str, isT_dict_tup, isT_dict_lst, isT_dict_rol, isT_dict_dct, truQ_non, truQ_bl, truQ_int, truQ_tup, truQ_lst, blQ_bl, lenD_tup, lenD_lst, lenD_rol, lenD_str, tupD_tup, tupD_lst, lstD_tup, lstD_lst, lstD_rol, intD_i, intD_b, boolD_i, boolD_b, ixD_tup, ixD_lst, ixD_rol, slD_lst, slD_tup, intQ_i, appD_1, extD_1, lsQ_own, lsQ_bor, gTp_t, gsCons_c, seqQ_t, seqQ_l, seqQ_r, hideS_fz, hideS_own, hideS_bor, hideS_no, mmQ_ii, atI_0, atI_1, atI_2, List.map_cons, List.map_nil, List.replicate, List.cons_append, List.nil_append, List.append_nil, List.set, List.length_cons, List.length_nil, decide_eq_true_eq, if_true, if_false, Bool.not_true, Bool.not_false, Bool.false_eq_true, and_true, true_and, List.nodup_cons, List.not_mem_nil, not_false_eq_true, List.nodup_nil, List.mem_cons, or_false, List.getD])
          unfold firstN at q
          by_cases c : betw 1 6 y = true
          · rw [if_pos (show p6 i y = true from c)] at q
            (try simp only [dSeq, dIfS, dRet, dRetN, dNext, dSet, dSetO, dDrop, dCall, callQ, dCallKw, dCons, dNil, dBor, dsQ, dTup, dLst, dV, dC, slot, dOp, dUn, dCmp, dCmpT, dChain, dChainT, dTru, dAnd, dOr, dNot, dAndV, dOrV, dNotV, dIf, dIsi, dNoO, dSoO, dSl, bodyQ, endsOf, outsOf, lents, putB, lentQ, dAsg, gNm, gsNil, iSeq, iRng, DL.iRng2, iEnm, dLm, dLm0, dPut, dMm, dYes, hQ, isSub, hideE, pick_0, pick_10, pick_210, rep2, kg, dFor, dLc, wipeD, restD, dPar, ixN3_0, ixN3_1, ixN3_2, ex_some, dRaise_1, dHeard_e, List.set_cons_zero, List.set_cons_succ, rdQ_fz, rdQ_own, rdQ_at, rdS_fz, rdS_own, rdS_bor, frzQ_fz, frzQ_own, frzQ_at, frS_fz, frS_own, nmQ_s, nmS_fz, nmS_own, nmS_bor, retQ_fz, retQ_own, retQ_at, rtS_fz, rtS_own, argsOf_at, argsOf_d, argsOf_n, lnS_own, lnS_bor, lnS_fz, reS_o, reS_b, setF_d, setO_own, setO_fz, setO_at, notBor_fz, notBor_own, notBor_no, isOwn_own, isOwn_bor, addD_ii, addD_ss, addD_ll, addD_tt, subD_ii, mulD_ii, mulD_li, mulD_ti, fdivD_ii, modD_ii, powD_ii, negD_i, ltD_ii, leD_ii, gtD_ii, geD_ii, isQ_n, isQ_b, nisQ_n, isN_non, isN_bl, isN_int, isN_str, isN_tup, isN_lst, isN_rol, isN_dct, isT_int_non, isT_int_bl, isT_int_int, isT_int_str, isT_int_tup, isT_int_lst, isT_int_rol, isT_int_dct, isT_bool_non, isT_bool_bl, isT_bool_int, isT_bool_str, isT_bool_tup, isT_bool_lst, isT_bool_rol, isT_bool_dct, isT_str_non, isT_str_bl, isT_str_int, isT_str_str, isT_str_tup, isT_str_lst, isT_str_rol, isT_str_dct, isT_tuple_non, isT_tuple_bl, isT_tuple_int, isT_tuple_str, isT_tuple_tup, isT_tuple_lst, isT_tuple_rol, isT_tuple_dct, isT_list_non, isT_list_bl, isT_list_int, isT_list_str, isT_list_tup, isT_list_lst, isT_list_rol, isT_list_dct, isT_dict_non, isT_dict_bl, isT_dict_int, isT_dict_str, isT_dict_tup, isT_dict_lst, isT_dict_rol, isT_dict_dct, truQ_non, truQ_bl, truQ_int, truQ_tup, truQ_lst, blQ_bl, lenD_tup, lenD_lst, lenD_rol, lenD_str, tupD_tup, tupD_lst, lstD_tup, lstD_lst, lstD_rol, intD_i, intD_b, boolD_i, boolD_b, ixD_tup, ixD_lst, ixD_rol, slD_lst, slD_tup, intQ_i, appD_1, extD_1, lsQ_own, lsQ_bor, gTp_t, gsCons_c, seqQ_t, seqQ_l, seqQ_r, hideS_fz, hideS_own, hideS_bor, hideS_no, mmQ_ii, atI_0, atI_1, atI_2, List.map_cons, List.map_nil, List.replicate, List.cons_append, List.nil_append, List.append_nil, List.set, List.length_cons, List.length_nil, decide_eq_true_eq, if_true, if_false, Bool.not_true, Bool.not_false, Bool.false_eq_true, and_true, true_and, List.nodup_cons, List.not_mem_nil, not_false_eq_true, List.nodup_nil, List.mem_cons, or_false, List.getD, c])
            exact hK _ ⟨i + 1, ys, _, _, rfl, rfl, rfl, rfl, q⟩
          · rw [if_neg (show ¬ p6 i y = true from c)] at q
            have c' : betw 1 6 y = false := by simpa using c
            (try simp only [dSeq, dIfS, dRet, dRetN, dNext, dSet, dSetO, dDrop, dCall, callQ, dCallKw, dCons, dNil, dBor, dsQ, dTup, dLst, dV, dC, slot, dOp, dUn, dCmp, dCmpT, dChain, dChainT, dTru, dAnd, dOr, dNot, dAndV, dOrV, dNotV, dIf, dIsi, dNoO, dSoO, dSl, bodyQ, endsOf, outsOf, lents, putB, lentQ, dAsg, gNm, gsNil, iSeq, iRng, DL.iRng2, iEnm, dLm, dLm0, dPut, dMm, dYes, hQ, isSub, hideE, pick_0, pick_10, pick_210, rep2, kg, dFor, dLc, wipeD, restD, dPar, ixN3_0, ixN3_1, ixN3_2, ex_some, dRaise_1, dHeard_e, List.set_cons_zero, List.set_cons_succ, rdQ_fz, rdQ_own, rdQ_at, rdS_fz, rdS_own, rdS_bor, frzQ_fz, frzQ_own, frzQ_at, frS_fz, frS_own, nmQ_s, nmS_fz, nmS_own, nmS_bor, retQ_fz, retQ_own, retQ_at, rtS_fz, rtS_own, argsOf_at, argsOf_d, argsOf_n, lnS_own, lnS_bor, lnS_fz, reS_o, reS_b, setF_d, setO_own, setO_fz, setO_at, notBor_fz, notBor_own, notBor_no, isOwn_own, isOwn_bor, addD_ii, addD_ss, addD_ll, addD_tt, subD_ii, mulD_ii, mulD_li, mulD_ti, fdivD_ii, modD_ii, powD_ii, negD_i, ltD_ii, leD_ii, gtD_ii, geD_ii, isQ_n, isQ_b, nisQ_n, isN_non, isN_bl, isN_int, isN_str, isN_tup, isN_lst, isN_rol, isN_dct, isT_int_non, isT_int_bl, isT_int_int, isT_int_str, isT_int_tup, isT_int_lst, isT_int_rol, isT_int_dct, isT_bool_non, isT_bool_bl, isT_bool_int, isT_bool_str, isT_bool_tup, isT_bool_lst, isT_bool_rol, isT_bool_dct, isT_str_non, isT_str_bl, isT_str_int, isT_str_str, isT_str_tup, isT_str_lst, isT_str_rol, isT_str_dct, isT_tuple_non, isT_tuple_bl, isT_tuple_int, isT_tuple_str, isT_tuple_tup, isT_tuple_lst, isT_tuple_rol, isT_tuple_dct, isT_list_non, isT_list_bl, isT_list_int, isT_list_str, isT_list_tup, isT_list_lst, isT_list_rol, isT_list_dct, isT_dict_non, isT_dict_bl, isT_dict_int, isT_dict_str, isT_dict_tup, isT_dict_lst, isT_dict_rol, isT_dict_dct, truQ_non, truQ_bl, truQ_int, truQ_tup, truQ_lst, blQ_bl, lenD_tup, lenD_lst, lenD_rol, lenD_str, tupD_tup, tupD_lst, lstD_tup, lstD_lst, lstD_rol, intD_i, intD_b, boolD_i, boolD_b, ixD_tup, ixD_lst, ixD_rol, slD_lst, slD_tup, intQ_i, appD_1, extD_1, lsQ_own, lsQ_bor, gTp_t, gsCons_c, seqQ_t, seqQ_l, seqQ_r, hideS_fz, hideS_own, hideS_bor, hideS_no, mmQ_ii, atI_0, atI_1, atI_2, List.map_cons, List.map_nil, List.replicate, List.cons_append, List.nil_append, List.append_nil, List.set, List.length_cons, List.length_nil, decide_eq_true_eq, if_true, if_false, Bool.not_true, Bool.not_false, Bool.false_eq_true, and_true, true_and, List.nodup_cons, List.not_mem_nil, not_false_eq_true, List.nodup_nil, List.mem_cons, or_false, List.getD, c'])
            exact q
    · rw [if_neg hc] at hQ
      have e : betw 1 24 (.int (ds.length : Nat)) = false := by unfold betw; simp; omega
      (try simp only [dSeq, dIfS, dRet, dRetN, dNext, dSet, dSetO, dDrop, dCall, callQ, dCallKw, dCons, dNil, dBor, dsQ, dTup, dLst, dV, dC, slot, dOp, dUn, dCmp, dCmpT, dChain, dChainT, dTru, dAnd, dOr, dNot, dAndV, dOrV, dNotV, dIf, dIsi, dNoO, dSoO, dSl, bodyQ, endsOf, outsOf, lents, putB, lentQ, dAsg, gNm, gsNil, iSeq, iRng, DL.iRng2, iEnm, dLm, dLm0, dPut, dMm, dYes, hQ, isSub, hideE, pick_0, pick_10, pick_210, rep2, kg, dFor, dLc, wipeD, restD, dPar, ixN3_0, ixN3_1, ixN3_2, ex_some, dRaise_1, dHeard_e, List.set_cons_zero, List.set_cons_succ, rdQ_fz, rdQ_own, rdQ_at, rdS_fz, rdS_own, rdS_bor, frzQ_fz, frzQ_own, frzQ_at, frS_fz, frS_own, nmQ_s, nmS_fz, nmS_own, nmS_bor, retQ_fz, retQ_own, retQ_at, rtS_fz, rtS_own, argsOf_at, argsOf_d, argsOf_n, lnS_own, lnS_bor, lnS_fz, reS_o, reS_b, setF_d, setO_own, setO_fz, setO_at, notBor_fz, notBor_own, notBor_no, isOwn_own, isOwn_bor, addD_ii, addD_ss, addD_ll, addD_tt, subD_ii, mulD_ii, mulD_li, mulD_ti, fdivD_ii, modD_ii, powD_ii, negD_i, ltD_ii, leD_ii, gtD_ii, geD_ii, isQ_n, isQ_b, nisQ_n, isN_non, isN_bl, isN_int, isN_str, isN_tup, isN_lst, isN_rol, isN_dct, isT_int_non, isT_int_bl, isT_int_int, isT_int_str, isT_int_tup, isT_int_lst, isT_int_rol, isT_int_dct, isT_bool_non, isT_bool_bl, isT_bool_int, isT_bool_str, isT_bool_tup, isT_bool_lst, isT_bool_rol, isT_bool_dct, isT_str_non, isT_str_bl, isT_str_int, isT_str_str, isT_str_tup, isT_str_lst, isT_str_rol, isT_str_dct, isT_tuple_non, isT_tuple_bl, isT_tuple_int, isT_tuple_str, isT_tuple_tup, isT_tuple_lst, isT_tuple_rol, isT_tuple_dct, isT_list_non, isT_list_bl, isT_list_int, isT_list_str, isT_list_tup, isT_list_lst, isT_list_rol, isT_list_dct, isT_dict_non, isT_dict_bl, isT_dict_int, isT_dict_str, isT_dict_tup, isT_dict_lst, isT_dict_rol, isT_dict_dct, truQ_non, truQ_bl, truQ_int, truQ_tup, truQ_lst, blQ_bl, lenD_tup, lenD_lst, lenD_rol, lenD_str, tupD_tup, tupD_lst, lstD_tup, lstD_lst, lstD_rol, intD_i, intD_b, boolD_i, boolD_b, ixD_tup, ixD_lst, ixD_rol, slD_lst, slD_tup, intQ_i, appD_1, extD_1, lsQ_own, lsQ_bor, gTp_t, gsCons_c, seqQ_t, seqQ_l, seqQ_r, hideS_fz, hideS_own, hideS_bor, hideS_no, mmQ_ii, atI_0, atI_1, atI_2, List.map_cons, List.map_nil, List.replicate, List.cons_append, List.nil_append, List.append_nil, List.set, List.length_cons, List.length_nil, decide_eq_true_eq, if_true, if_false, Bool.not_true, Bool.not_false, Bool.false_eq_true, and_true, true_and, List.nodup_cons, List.not_mem_nil, not_false_eq_true, List.nodup_nil, List.mem_cons, or_false, List.getD, e])
      all_goals exact hQ
  all_goals ((try simp only [dSeq, dIfS, dRet, dRetN, dNext, dSet, dSetO, dDrop, dCall, callQ, dCallKw, dCons, dNil, dBor, dsQ, dTup, dLst, dV, dC, slot, dOp, dUn, dCmp, dCmpT, dChain, dChainT, dTru, dAnd, dOr, dNot, dAndV, dOrV, dNotV, dIf, dIsi, dNoO, dSoO, dSl, bodyQ, endsOf, outsOf, lents, putB, lentQ, dAsg, gNm, gsNil, iSeq, iRng, DL.iRng2, iEnm, dLm, dLm0, dPut, dMm, dYes, hQ, isSub, hideE, pick_0, pick_10, pick_210, rep2, kg, dFor, dLc, wipeD, restD, dPar, ixN3_0, ixN3_1, ixN3_2, ex_some, dRaise_1, dHeard_e, List.set_cons_zero, List.set_cons_succ, rdQ_fz, rdQ_own, rdQ_at, rdS_fz, rdS_own, rdS_bor, frzQ_fz, frzQ_own, frzQ_at, frS_fz, frS_own, nmQ_s, nmS_fz, nmS_own, nmS_bor, retQ_fz, retQ_own, retQ_at, rtS_fz, rtS_own, argsOf_at, argsOf_d, argsOf_n, lnS_own, lnS_bor, lnS_fz, reS_o, reS_b, setF_d, setO_own, setO_fz, setO_at, notBor_fz, notBor_own, notBor_no, isOwn_own, isOwn_bor, addD_ii, addD_ss, addD_ll, addD_tt, subD_ii, mulD_ii, mulD_li, mulD_ti, fdivD_ii, modD_ii, powD_ii, negD_i, ltD_ii, leD_ii, gtD_ii, geD_ii, isQ_n, isQ_b, nisQ_n, isN_non, isN_bl, isN_int, isN_str, isN_tup, isN_lst, isN_rol, isN_dct, isT_int_non, isT_int_bl, isT_int_int, isT_int_str, isT_int_tup, isT_int_lst, isT_int_rol, isT_int_dct, isT_bool_non, isT_bool_bl, isT_bool_int, isT_bool_str, isT_bool_tup, isT_bool_lst, isT_bool_rol, isT_bool_dct, isT_str_non, isT_str_bl, isT_str_int, isT_str_str, isT_str_tup, isT_str_lst, isT_str_rol, isT_str_dct, isT_tuple_non, isT_tuple_bl, isT_tuple_int, isT_tuple_str, isT_tuple_tup, isT_tuple_lst, isT_tuple_rol, isT_tuple_dct, isT_list_non, isT_list_bl, isT_list_int, isT_list_str, isT_list_tup, isT_list_lst, isT_list_rol, isT_list_dct, isT_dict_non, isT_dict_bl, isT_dict_int, isT_dict_str, isT_dict_tup, isT_dict_lst, isT_dict_rol, isT_dict_dct, truQ_non, truQ_bl, truQ_int, truQ_tup, truQ_lst, blQ_bl, lenD_tup, lenD_lst, lenD_rol, lenD_str, tupD_tup, tupD_lst, lstD_tup, lstD_lst, lstD_rol, intD_i, intD_b, boolD_i, boolD_b, ixD_tup, ixD_lst, ixD_rol, slD_lst, slD_tup, intQ_i, appD_1, extD_1, lsQ_own, lsQ_bor, gTp_t, gsCons_c, seqQ_t, seqQ_l, seqQ_r, hideS_fz, hideS_own, hideS_bor, hideS_no, mmQ_ii, atI_0, atI_1, atI_2, List.map_cons, List.map_nil, List.replicate, List.cons_append, List.nil_append, List.append_nil, List.set, List.length_cons, List.length_nil, decide_eq_true_eq, if_true, if_false, Bool.not_true, Bool.not_false, Bool.false_eq_true, and_true, true_and, List.nodup_cons, List.not_mem_nil, not_false_eq_true, List.nodup_nil, List.mem_cons, or_false, List.getD, td_wrong_size]); exact hQ)
theorem w_is_sizes {d : D} {Q : Rv → List OC → Prop} {ED : Nat → D → Prop} (hQ : Q (.fz (.bl (isN (wsD d)))) []) : sp_is_sizes [.fz d] Q ED := by
  refine ⟨rfl, ?_⟩
  (try simp only [dSeq, dIfS, dRet, dRetN, dNext, dSet, dSetO, dDrop, dCall, callQ, dCallKw, dCons, dNil, dBor, dsQ, dTup, dLst, dV, dC, slot, dOp, dUn, dCmp, dCmpT, dChain, dChainT, dTru, dAnd, dOr, dNot, dAndV, dOrV, dNotV, dIf, dIsi, dNoO, dSoO, dSl, bodyQ, endsOf, outsOf, lents, putB, lentQ, dAsg, gNm, gsNil, iSeq, iRng, DL.iRng2, iEnm, dLm, dLm0, dPut, dMm, dYes, hQ, isSub, hideE, pick_0, pick_10, pick_210, rep2, kg, dFor, dLc, wipeD, restD, dPar, ixN3_0, ixN3_1, ixN3_2, ex_some, dRaise_1, dHeard_e, List.set_cons_zero, List.set_cons_succ, rdQ_fz, rdQ_own, rdQ_at, rdS_fz, rdS_own, rdS_bor, frzQ_fz, frzQ_own, frzQ_at, frS_fz, frS_own, nmQ_s, nmS_fz, nmS_own, nmS_bor, retQ_fz, retQ_own, retQ_at, rtS_fz, rtS_own, argsOf_at, argsOf_d, argsOf_n, lnS_own, lnS_bor, lnS_fz, reS_o, reS_b, setF_d, setO_own, setO_fz, setO_at, notBor_fz, notBor_own, notBor_no, isOwn_own, isOwn_bor, addD_ii, addD_ss, addD_ll, addD_tt, subD_ii, mulD_ii, mulD_li, mulD_ti, fdivD_ii, modD_ii, powD_ii, negD_i, ltD_ii, leD_ii, gtD_ii, geD_ii, isQ_n, isQ_b, nisQ_n, isN_non, isN_bl, isN_int, isN_str, isN_tup, isN_lst, isN_rol, isN_dct, isT_int_non, isT_int_bl, isT_int_int, isT_int_str, isT_int_tup, isT_int_lst, isT_int_rol, isT_int_dct, isT_bool_non, isT_bool_bl, isT_bool_int, isT_bool_str, isT_bool_tup, isT_bool_lst, isT_bool_rol, isT_bool_dct, isT_str_non, isT_str_bl, isT_str_int, isT_str_str, isT_str_tup, isT_str_lst, isT_str_rol, isT_str_dct, isT_tuple_non, isT_tuple_bl, isT_tuple_int, isT_tuple_str, isT_tuple_tup, isT_tuple_lst, isT_tuple_rol, isT_tuple_dct, isT_list_non, isT_list_bl, isT_list_int, isT_list_str, isT_list_tup, isT_list_lst, isT_list_rol, isT_list_dct, isT_dict_non, isT_dict_bl, isT_dict_int, isT_dict_str, isT_dict_tup, isT_dict_lst, isT_dict_rol, isT_dict_dct, truQ_non, truQ_bl, truQ_int, truQ_tup, truQ_lst, blQ_bl, lenD_tup, lenD_lst, lenD_rol, lenD_str, tupD_tup, tupD_lst, lstD_tup, lstD_lst, lstD_rol, intD_i, intD_b, boolD_i, boolD_b, ixD_tup, ixD_lst, ixD_rol, slD_lst, slD_tup, intQ_i, appD_1, extD_1, lsQ_own, lsQ_bor, gTp_t, gsCons_c, seqQ_t, seqQ_l, seqQ_r, hideS_fz, hideS_own, hideS_bor, hideS_no, mmQ_ii, atI_0, atI_1, atI_2, List.map_cons, List.map_nil, List.replicate, List.cons_append, List.nil_append, List.append_nil, List.set, List.length_cons, List.length_nil, decide_eq_true_eq, if_true, if_false, Bool.not_true, Bool.not_false, Bool.false_eq_true, and_true, true_and, List.nodup_cons, List.not_mem_nil, not_false_eq_true, List.nodup_nil, List.mem_cons, or_false, List.getD, td_is_sizes])
  refine ⟨(by simp [lents, slot, Sl.isOwn]), w_wrong_size ?_⟩
  (try simp only [dSeq, dIfS, dRet, dRetN, dNext, dSet, dSetO, dDrop, dCall, callQ, dCallKw, dCons, dNil, dBor, dsQ, dTup, dLst, dV, dC, slot, dOp, dUn, dCmp, dCmpT, dChain, dChainT, dTru, dAnd, dOr, dNot, dAndV, dOrV, dNotV, dIf, dIsi, dNoO, dSoO, dSl, bodyQ, endsOf, outsOf, lents, putB, lentQ, dAsg, gNm, gsNil, iSeq, iRng, DL.iRng2, iEnm, dLm, dLm0, dPut, dMm, dYes, hQ, isSub, hideE, pick_0, pick_10, pick_210, rep2, kg, dFor, dLc, wipeD, restD, dPar, ixN3_0, ixN3_1, ixN3_2, ex_some, dRaise_1, dHeard_e, List.set_cons_zero, List.set_cons_succ, rdQ_fz, rdQ_own, rdQ_at, rdS_fz, rdS_own, rdS_bor, frzQ_fz, frzQ_own, frzQ_at, frS_fz, frS_own, nmQ_s, nmS_fz, nmS_own, nmS_bor, retQ_fz, retQ_own, retQ_at, rtS_fz, rtS_own, argsOf_at, argsOf_d, argsOf_n, lnS_own, lnS_bor, lnS_fz, reS_o, reS_b, setF_d, setO_own, setO_fz, setO_at, notBor_fz, notBor_own, notBor_no, isOwn_own, isOwn_bor, addD_ii, addD_ss, addD_ll, addD_tt, subD_ii, mulD_ii, mulD_li, mulD_ti, fdivD_ii, modD_ii, powD_ii, negD_i, ltD_ii, leD_ii, gtD_ii, geD_ii, isQ_n, isQ_b, nisQ_n, isN_non, isN_bl, isN_int, isN_str, isN_tup, isN_lst, isN_rol, isN_dct, isT_int_non, isT_int_bl, isT_int_int, isT_int_str, isT_int_tup, isT_int_lst, isT_int_rol, isT_int_dct, isT_bool_non, isT_bool_bl, isT_bool_int, isT_bool_str, isT_bool_tup, isT_bool_lst, isT_bool_rol, isT_bool_dct, isT_str_non, isT_str_bl, isT_str_int, isT_str_str, isT_str_tup, isT_str_lst, isT_str_rol, isT_str_dct, isT_tuple_non, isT_tuple_bl, isT_tuple_int, isT_tuple_str, isT_tuple_tup, isT_tuple_lst, isT_tuple_rol, isT_tuple_dct, isT_list_non, isT_list_bl, isT_list_int, isT_list_str, isT_list_tup, isT_list_lst, isT_list_rol, isT_list_dct, isT_dict_non, isT_dict_bl, isT_dict_int, isT_dict_str, isT_dict_tup, isT_dict_lst, isT_dict_rol, isT_dict_dct, truQ_non, truQ_bl, truQ_int, truQ_tup, truQ_lst, blQ_bl, lenD_tup, lenD_lst, lenD_rol, lenD_str, tupD_tup, tupD_lst, lstD_tup, lstD_lst, lstD_rol, intD_i, intD_b, boolD_i, boolD_b, ixD_tup, ixD_lst, ixD_rol, slD_lst, slD_tup, intQ_i, appD_1, extD_1, lsQ_own, lsQ_bor, gTp_t, gsCons_c, seqQ_t, seqQ_l, seqQ_r, hideS_fz, hideS_own, hideS_bor, hideS_no, mmQ_ii, atI_0, atI_1, atI_2, List.map_cons, List.map_nil, List.replicate, List.cons_append, List.nil_append, List.append_nil, List.set, List.length_cons, List.length_nil, decide_eq_true_eq, if_true, if_false, Bool.not_true, Bool.not_false, Bool.false_eq_true, and_true, true_and, List.nodup_cons, List.not_mem_nil, not_false_eq_true, List.nodup_nil, List.mem_cons, or_false, List.getD])
  all_goals exact hQ
theorem w_made_sizes {d : D} {Q : Rv → List OC → Prop} {ED : Nat → D → Prop} (hQ : if isN (wsD d) = true then Q (.fz d) [] else ED 1 (wsD d)) : sp_made_sizes [.fz d] Q ED := by
  refine ⟨rfl, ?_⟩
  (try simp only [dSeq, dIfS, dRet, dRetN, dNext, dSet, dSetO, dDrop, dCall, callQ, dCallKw, dCons, dNil, dBor, dsQ, dTup, dLst, dV, dC, slot, dOp, dUn, dCmp, dCmpT, dChain, dChainT, dTru, dAnd, dOr, dNot, dAndV, dOrV, dNotV, dIf, dIsi, dNoO, dSoO, dSl, bodyQ, endsOf, outsOf, lents, putB, lentQ, dAsg, gNm, gsNil, iSeq, iRng, DL.iRng2, iEnm, dLm, dLm0, dPut, dMm, dYes, hQ, isSub, hideE, pick_0, pick_10, pick_210, rep2, kg, dFor, dLc, wipeD, restD, dPar, ixN3_0, ixN3_1, ixN3_2, ex_some, dRaise_1, dHeard_e, List.set_cons_zero, List.set_cons_succ, rdQ_fz, rdQ_own, rdQ_at, rdS_fz, rdS_own, rdS_bor, frzQ_fz, frzQ_own, frzQ_at, frS_fz, frS_own, nmQ_s, nmS_fz, nmS_own, nmS_bor, retQ_fz, retQ_own, retQ_at, rtS_fz, rtS_own, argsOf_at, argsOf_d, argsOf_n, lnS_own, lnS_bor, lnS_fz, reS_o, reS_b, setF_d, setO_own, setO_fz, setO_at, notBor_fz, notBor_own, notBor_no, isOwn_own, isOwn_bor, addD_ii, addD_ss, addD_ll, addD_tt, subD_ii, mulD_ii, mulD_li, mulD_ti, fdivD_ii, modD_ii, powD_ii, negD_i, ltD_ii, leD_ii, gtD_ii, geD_ii, isQ_n, isQ_b, nisQ_n, isN_non, isN_bl, isN_int, isN_str, isN_tup, isN_lst, isN_rol, isN_dct, isT_int_non, isT_int_bl, isT_int_int, isT_int_str, isT_int_tup, isT_int_lst, isT_int_rol, isT_int_dct, isT_bool_non, isT_bool_bl, isT_bool_int, isT_bool_str, isT_bool_tup, isT_bool_lst, isT_bool_rol, isT_bool_dct, isT_str_non, isT_str_bl, isT_str_int, isT_str_str, isT_str_tup, isT_str_lst, isT_str_rol, isT_str_dct, isT_tuple_non, isT_tuple_bl, isT_tuple_int, isT_tuple_str, isT_tuple_tup, isT_tuple_lst, isT_tuple_rol, isT_tuple_dct, isT_list_non, isT_list_bl, isT_list_int, isT_list_str, isT_list_tup, isT_list_lst, isT_list_rol, isT_list_dct, isT_dict_non, isT_dict_bl, isT_dict_int, isT_dict_str, isT_dict_tup, isT_dict_lst, isT_dict_rol, isT_dict_dct, truQ_non, truQ_bl, truQ_int, truQ_tup, truQ_lst, blQ_bl, lenD_tup, lenD_lst, lenD_rol, lenD_str, tupD_tup, tupD_lst, lstD_tup, lstD_lst, lstD_rol, intD_i, intD_b, boolD_i, boolD_b, ixD_tup, ixD_lst, ixD_rol, slD_lst, slD_tup, intQ_i, appD_1, extD_1, lsQ_own, lsQ_bor, gTp_t, gsCons_c, seqQ_t, seqQ_l, seqQ_r, hideS_fz, hideS_own, hideS_bor, hideS_no, mmQ_ii, atI_0, atI_1, atI_2, List.map_cons, List.map_nil, List.replicate, List.cons_append, List.nil_append, List.append_nil, List.set, List.length_cons, List.length_nil, decide_eq_true_eq, if_true, if_false, Bool.not_true, Bool.not_false, Bool.false_eq_true, and_true, true_and, List.nodup_cons, List.not_mem_nil, not_false_eq_true, List.nodup_nil, List.mem_cons, or_false, List.getD, td_made_sizes])
  refine ⟨(by simp [lents, slot, Sl.isOwn]), w_wrong_size ?_⟩
  (try simp only [dSeq, dIfS, dRet, dRetN, dNext, dSet, dSetO, dDrop, dCall, callQ, dCallKw, dCons, dNil, dBor, dsQ, dTup, dLst, dV, dC, slot, dOp, dUn, dCmp, dCmpT, dChain, dChainT, dTru, dAnd, dOr, dNot, dAndV, dOrV, dNotV, dIf, dIsi, dNoO, dSoO, dSl, bodyQ, endsOf, outsOf, lents, putB, lentQ, dAsg, gNm, gsNil, iSeq, iRng, DL.iRng2, iEnm, dLm, dLm0, dPut, dMm, dYes, hQ, isSub, hideE, pick_0, pick_10, pick_210, rep2, kg, dFor, dLc, wipeD, restD, dPar, ixN3_0, ixN3_1, ixN3_2, ex_some, dRaise_1, dHeard_e, List.set_cons_zero, List.set_cons_succ, rdQ_fz, rdQ_own, rdQ_at, rdS_fz, rdS_own, rdS_bor, frzQ_fz, frzQ_own, frzQ_at, frS_fz, frS_own, nmQ_s, nmS_fz, nmS_own, nmS_bor, retQ_fz, retQ_own, retQ_at, rtS_fz, rtS_own, argsOf_at, argsOf_d, argsOf_n, lnS_own, lnS_bor, lnS_fz, reS_o, reS_b, setF_d, setO_own, setO_fz, setO_at, notBor_fz, notBor_own, notBor_no, isOwn_own, isOwn_bor, addD_ii, addD_ss, addD_ll, addD_tt, subD_ii, mulD_ii, mulD_li, mulD_ti, fdivD_ii, modD_ii, powD_ii, negD_i, ltD_ii, leD_ii, gtD_ii, geD_ii, isQ_n, isQ_b, nisQ_n, isN_non, isN_bl, isN_int, isN_str, isN_tup, isN_lst, isN_rol, isN_dct, isT_int_non, isT_int_bl, isT_int_int, isT_int_str, isT_int_tup, isT_int_lst, isT_int_rol, isT_int_dct, isT_bool_non, isT_bool_bl, isT_bool_int, isT_bool_str, isT_bool_tup, isT_bool_lst, isT_bool_rol, isT_bool_dct, isT_str_non, isT_str_bl, isT_str_int, isT_str_str, isT_str_tup, isT_str_lst, isT_str_rol, isT_str_dct, isT_tuple_non, isT_tuple_bl, isT_tuple_int, isT_tuple_str, isT_tuple_tup, isT_tuple_lst, isT_tuple_rol, isT_tuple_dct, isT_list_non, isT_list_bl, isT_list_int, isT_list_str, isT_list_tup, isT_list_lst, isT_list_rol, isT_list_dct, isT_dict_non, isT_dict_bl, isT_dict_int, isT_dict_str, isT_dict_tup, isT_dict_lst, isT_dict_rol, isT_dict_dct, truQ_non, truQ_bl, truQ_int, truQ_tup, truQ_lst, blQ_bl, lenD_tup, lenD_lst, lenD_rol, lenD_str, tupD_tup, tupD_lst, lstD_tup, lstD_lst, lstD_rol, intD_i, intD_b, boolD_i, boolD_b, ixD_tup, ixD_lst, ixD_rol, slD_lst, slD_tup, intQ_i, appD_1, extD_1, lsQ_own, lsQ_bor, gTp_t, gsCons_c, seqQ_t, seqQ_l, seqQ_r, hideS_fz, hideS_own, hideS_bor, hideS_no, mmQ_ii, atI_0, atI_1, atI_2, List.map_cons, List.map_nil, List.replicate, List.cons_append, List.nil_append, List.append_nil, List.set, List.length_cons, List.length_nil, decide_eq_true_eq, if_true, if_false, Bool.not_true, Bool.not_false, Bool.false_eq_true, and_true, true_and, List.nodup_cons, List.not_mem_nil, not_false_eq_true, List.nodup_nil, List.mem_cons, or_false, List.getD])
  by_cases c : isN (wsD d) = true
  · rw [if_pos c] at hQ
    (try simp only [dSeq, dIfS, dRet, dRetN, dNext, dSet, dSetO, dDrop, dCall, callQ, dCallKw, dCons, dNil, dBor, dsQ, dTup, dLst, dV, dC, slot, dOp, dUn, dCmp, dCmpT, dChain, dChainT, dTru, dAnd, dOr, dNot, dAndV, dOrV, dNotV, dIf, dIsi, dNoO, dSoO, dSl, bodyQ, endsOf, outsOf, lents, putB, lentQ, dAsg, gNm, gsNil, iSeq, iRng, DL.iRng2, iEnm, dLm, dLm0, dPut, dMm, dYes, hQ, isSub, hideE, pick_0, pick_10, pick_210, rep2, kg, dFor, dLc, wipeD, restD, dPar, ixN3_0, ixN3_1, ixN3_2, ex_some, dRaise_1, dHeard_e, List.set_cons_zero, List.set_cons_succ, rdQ_fz, rdQ_own, rdQ_at, rdS_fz, rdS_own, rdS_bor, frzQ_fz, frzQ_own, frzQ_at, frS_fz, frS_own, nmQ_s, nmS_fz, nmS_own, nmS_bor, retQ_fz, retQ_own, retQ_at, rtS_fz, rtS_own, argsOf_at, argsOf_d, argsOf_n, lnS_own, lnS_bor, lnS_fz, reS_o, reS_b, setF_d, setO_own, setO_fz, setO_at, notBor_fz, notBor_own, notBor_no, isOwn_own, isOwn_bor, addD_ii, addD_ss, addD_ll, addD_tt, subD_ii, mulD_ii, mulD_li, mulD_ti, fdivD_ii, modD_ii, powD_ii, negD_i, ltD_ii, leD_ii, gtD_ii, geD_ii, isQ_n, isQ_b, nisQ_n, isN_non, isN_bl, isN_int, isN_str, isN_tup, isN_lst, isN_rol, isN_dct, isT_int_non, isT_int_bl, isT_int_int, isT_int_str, isT_int_tup, isT_int_lst, isT_int_rol, isT_int_dct, isT_bool_non, isT_bool_bl, isT_bool_int, isT_bool_str, isT_bool_tup, isT_bool_lst, isT_bool_rol, isT_bool_dct, isT_str_non, isT_str_bl, isT_str_int, isT_str_str, isT_str_tup, isT_str_lst, isT_str_rol, isT_str_dct, isT_tuple_non, isT_tuple_bl, isT_tuple_int, isT_tuple_str, isT_tuple_tup, isT_tuple_lst, isT_tuple_rol, isT_tuple_dct, isT_list_non, isT_list_bl, isT_list_int, isT_list_str, isT_list_tup, isT_list_lst, isT_list_rol, isT_list_dct, isT_dict_non, isT_dict_bl, isT_dict_int, isT_dict_str, isT_dict_tup, isT_dict_lst, isT_dict_rol, isT_dict_dct, truQ_non, truQ_bl, truQ_int, truQ_tup, truQ_lst, blQ_bl, lenD_tup, lenD_lst, lenD_rol, lenD_str, tupD_tup, tupD_lst, lstD_tup, lstD_lst, lstD_rol, intD_i, intD_b, boolD_i, boolD_b, ixD_tup, ixD_lst, ixD_rol, slD_lst, slD_tup, intQ_i, appD_1, extD_1, lsQ_own, lsQ_bor, gTp_t, gsCons_c, seqQ_t, seqQ_l, seqQ_r, hideS_fz, hideS_own, hideS_bor, hideS_no, mmQ_ii, atI_0, atI_1, atI_2, List.map_cons, List.map_nil, List.replicate, List.cons_append, List.nil_append, List.append_nil, List.set, List.length_cons, List.length_nil, decide_eq_true_eq, if_true, if_false, Bool.not_true, Bool.not_false, Bool.false_eq_true, and_true, true_and, List.nodup_cons, List.not_mem_nil, not_false_eq_true, List.nodup_nil, List.mem_cons, or_false, List.getD, c])
    all_goals exact hQ
  · rw [if_neg c] at hQ
    have c' : isN (wsD d) = false := by simpa using c
    (try simp only [dSeq, dIfS, dRet, dRetN, dNext, dSet, dSetO, dDrop, dCall, callQ, dCallKw, dCons, dNil, dBor, dsQ, dTup, dLst, dV, dC, slot, dOp, dUn, dCmp, dCmpT, dChain, dChainT, dTru, dAnd, dOr, dNot, dAndV, dOrV, dNotV, dIf, dIsi, dNoO, dSoO, dSl, bodyQ, endsOf, outsOf, lents, putB, lentQ, dAsg, gNm, gsNil, iSeq, iRng, DL.iRng2, iEnm, dLm, dLm0, dPut, dMm, dYes, hQ, isSub, hideE, pick_0, pick_10, pick_210, rep2, kg, dFor, dLc, wipeD, restD, dPar, ixN3_0, ixN3_1, ixN3_2, ex_some, dRaise_1, dHeard_e, List.set_cons_zero, List.set_cons_succ, rdQ_fz, rdQ_own, rdQ_at, rdS_fz, rdS_own, rdS_bor, frzQ_fz, frzQ_own, frzQ_at, frS_fz, frS_own, nmQ_s, nmS_fz, nmS_own, nmS_bor, retQ_fz, retQ_own, retQ_at, rtS_fz, rtS_own, argsOf_at, argsOf_d, argsOf_n, lnS_own, lnS_bor, lnS_fz, reS_o, reS_b, setF_d, setO_own, setO_fz, setO_at, notBor_fz, notBor_own, notBor_no, isOwn_own, isOwn_bor, addD_ii, addD_ss, addD_ll, addD_tt, subD_ii, mulD_ii, mulD_li, mulD_ti, fdivD_ii, modD_ii, powD_ii, negD_i, ltD_ii, leD_ii, gtD_ii, geD_ii, isQ_n, isQ_b, nisQ_n, isN_non, isN_bl, isN_int, isN_str, isN_tup, isN_lst, isN_rol, isN_dct, isT_int_non, isT_int_bl, isT_int_int, isT_int_str, isT_int_tup, isT_int_lst, isT_int_rol, isT_int_dct, isT_bool_non, isT_bool_bl, isT_bool_int, isT_bool_str, isT_bool_tup, isT_bool_lst, isT_bool_rol, isT_bool_dct, isT_str_non, isT_str_bl, isT_str_int, isT_str_str, isT_str_tup, isT_str_lst, isT_str_rol, isT_str_dct, isT_tuple_non, isT_tuple_bl, isT_tuple_int, isT_tuple_str, isT_tuple_tup, isT_tuple_lst, isT_tuple_rol, isT_tuple_dct, isT_list_non, isT_list_bl, isT_list_int, isT_list_str, isT_list_tup, isT_list_lst, isT_list_rol, isT_list_dct, isT_dict_non, isT_dict_bl, isT_dict_int, isT_dict_str, isT_dict_tup, isT_dict_lst, isT_dict_rol, isT_dict_dct, truQ_non, truQ_bl, truQ_int, truQ_tup, truQ_lst, blQ_bl, lenD_tup, lenD_lst, lenD_rol, lenD_str, tupD_tup, tupD_lst, lstD_tup, lstD_lst, lstD_rol, intD_i, intD_b, boolD_i, boolD_b, ixD_tup, ixD_lst, ixD_rol, slD_lst, slD_tup, intQ_i, appD_1, extD_1, lsQ_own, lsQ_bor, gTp_t, gsCons_c, seqQ_t, seqQ_l, seqQ_r, hideS_fz, hideS_own, hideS_bor, hideS_no, mmQ_ii, atI_0, atI_1, atI_2, List.map_cons, List.map_nil, List.replicate, List.cons_append, List.nil_append, List.append_nil, List.set, List.length_cons, List.length_nil, decide_eq_true_eq, if_true, if_false, Bool.not_true, Bool.not_false, Bool.false_eq_true, and_true, true_and, List.nodup_cons, List.not_mem_nil, not_false_eq_true, List.nodup_nil, List.mem_cons, or_false, List.getD, c'])
    all_goals exact hQ
theorem w_sizes_ok {ds : List D} (h : wsD (.tup ds) = .non) : 1 ≤ ds.length ∧ ds.length ≤ 24 ∧ ∀ (j : Nat) (d : D), ds[j]? = some d → ∃ i : Int, d = .int i ∧ 1 ≤ i ∧ i ≤ 6 := by
  dsimp only [wsD] at h
  by_cases c : 1 ≤ ds.length ∧ ds.length ≤ 24
  · rw [if_pos c] at h
    refine ⟨c.1, c.2, fun j d hd => ?_⟩
    have q : betw 1 6 d = true := firstN_all h j d hd
    cases d with
    | int i =>
      have q' : (decide (1 ≤ i) && decide (i ≤ 6)) = true := q
      simp at q'
      exact ⟨i, rfl, q'.1, q'.2⟩
    | _ => cases q
  · rw [if_neg c] at h; cases h
def szA (ss : List D) (i : Nat) : Int := match ss[i]? with
  | some (.int s) => s
  | _ => 0
def pw (ss : List D) : Nat → D → Bool := fun i d => betw 0 (szA ss i - 1) d
def Ints (ss : List D) : Prop := ∀ d ∈ ss, ∃ i : Int, d = .int i
theorem Ints.get {ss : List D} (h : Ints ss) {i : Nat} (hi : i < ss.length) : ss[i]? = some (.int (szA ss i)) := by
  have e := List.getElem?_eq_getElem hi
  obtain ⟨x, hx⟩ := h ss[i] (List.getElem_mem hi)
  rw [hx] at e
  have : szA ss i = x := by unfold szA; rw [e]
  rw [this, e]
def wwD (ss : List D) : D → D
  | .tup ds => if ds.length = ss.length then firstN (pw ss) 0 ds else .int (-1)
  | _ => .int (-1)
theorem w_wrong_worth {d : D} {ss : List D} {Q : Rv → List OC → Prop} {ED : Nat → D → Prop} (hs : Ints ss) (hQ : Q (.fz (wwD ss d)) []) : sp_wrong_worth [.fz (.tup ss), .fz d] Q ED := by
  refine ⟨rfl, ?_⟩
  cases d
  case tup ds =>
    (try simp only [dSeq, dIfS, dRet, dRetN, dNext, dSet, dSetO, dDrop, dCall, callQ, dCallKw, dCons, dNil, dBor, dsQ, dTup, dLst, dV, dC, slot, dOp, dUn, dCmp, dCmpT, dChain, dChainT, dTru, dAnd, dOr, dNot, dAndV, dOrV, dNotV, dIf, dIsi, dNoO, dSoO, dSl, bodyQ, endsOf, outsOf, lents, putB, lentQ, dAsg, gNm, gsNil, iSeq, iRng, DL.iRng2, iEnm, dLm, dLm0, dPut, dMm, dYes, hQ, isSub, hideE, pick_0, pick_10, pick_210, rep2, kg, dFor, dLc, wipeD, restD, dPar, ixN3_0, ixN3_1, ixN3_2, ex_some, dRaise_1, dHeard_e, List.set_cons_zero, List.set_cons_succ, rdQ_fz, rdQ_own, rdQ_at, rdS_fz, rdS_own, rdS_bor, frzQ_fz, frzQ_own, frzQ_at, frS_fz, frS_own, nmQ_s, nmS_fz, nmS_own, nmS_bor, retQ_fz, retQ_own, retQ_at, rtS_fz, rtS_own, argsOf_at, argsOf_d, argsOf_n, lnS_own, lnS_bor, lnS_fz, reS_o, reS_b, setF_d, setO_own, setO_fz, setO_at, notBor_fz, notBor_own, notBor_no, isOwn_own, isOwn_bor, addD_ii, addD_ss, addD_ll, addD_tt, subD_ii, mulD_ii, mulD_li, mulD_ti, fdivD_ii, modD_ii, powD_ii, negD_i, ltD_ii, leD_ii, gtD_ii, geD_ii, isQ_n, isQ_b, nisQ_n, isN_non, isN_bl, isN_int, isN_str, isN_tup, isN_lst, isN_rol, isN_dct, isT_int_non, isT_int_bl, isT_int_int, isT_int_str, isT_int_tup, isT_int_lst, isT_int_rol, isT_int_dct, isT_bool_non, isT_bool_bl, isT_bool_int, isT_bool_str, isT_bool_tup, isT_bool_lst, isT_bool_rol, isT_bool_dct, isT_str_non, isT_str_bl, isT_str_int, isT_str_str, isT_str_tup, isT_str_lst, isT_str_rol, isT_str_dct, isT_tuple_non, isT_tuple_bl, isT_tuple_int, isT_tuple_str, isT_tuple_tup, isT_tuple_lst, isT_tuple_rol, isT_tuple_dct, isT_list_non, isT_list_bl, isT_list_int, isT_list_str, isT_list_tup, isT_list_lst, isT_list_rol, isT_list_dct, isT_dict_non, isT_dict_bl, isT_dict_int, isT_dict_str, isT_dict_tup, isT_dict_lst, isT_dict_rol, isT_dict_dct, truQ_non, truQ_bl, truQ_int, truQ_tup, truQ_lst, blQ_bl, lenD_tup, lenD_lst, lenD_rol, lenD_str, tupD_tup, tupD_lst, lstD_tup, lstD_lst, lstD_rol, intD_i, intD_b, boolD_i, boolD_b, ixD_tup, ixD_lst, ixD_rol, slD_lst, slD_tup, intQ_i, appD_1, extD_1, lsQ_own, lsQ_bor, gTp_t, gsCons_c, seqQ_t, seqQ_l, seqQ_r, hideS_fz, hideS_own, hideS_bor, hideS_no, mmQ_ii, atI_0, atI_1, atI_2, List.map_cons, List.map_nil, List.replicate, List.cons_append, List.nil_append, List.append_nil, List.set, List.length_cons, List.length_nil, decide_eq_true_eq, if_true, if_false, Bool.not_true, Bool.not_false, Bool.false_eq_true, and_true, true_and, List.nodup_cons, List.not_mem_nil, not_false_eq_true, List.nodup_nil, List.mem_cons, or_false, List.getD, td_wrong_worth])
    refine ⟨okD_int, okD_int, ?_⟩
    dsimp only [wwD] at hQ
    by_cases hc : ds.length = ss.length
    · rw [if_pos hc] at hQ
      have e : eqD (.int (ds.length : Nat)) (.int (ss.length : Nat)) = true := by rw [hc]; exact beq_self_eq_true _
      (try simp only [dSeq, dIfS, dRet, dRetN, dNext, dSet, dSetO, dDrop, dCall, callQ, dCallKw, dCons, dNil, dBor, dsQ, dTup, dLst, dV, dC, slot, dOp, dUn, dCmp, dCmpT, dChain, dChainT, dTru, dAnd, dOr, dNot, dAndV, dOrV, dNotV, dIf, dIsi, dNoO, dSoO, dSl, bodyQ, endsOf, outsOf, lents, putB, lentQ, dAsg, gNm, gsNil, iSeq, iRng, DL.iRng2, iEnm, dLm, dLm0, dPut, dMm, dYes, hQ, isSub, hideE, pick_0, pick_10, pick_210, rep2, kg, dFor, dLc, wipeD, restD, dPar, ixN3_0, ixN3_1, ixN3_2, ex_some, dRaise_1, dHeard_e, List.set_cons_zero, List.set_cons_succ, rdQ_fz, rdQ_own, rdQ_at, rdS_fz, rdS_own, rdS_bor, frzQ_fz, frzQ_own, frzQ_at, frS_fz, frS_own, nmQ_s, nmS_fz, nmS_own, nmS_bor, retQ_fz, retQ_own, retQ_at, rtS_fz, rtS_own, argsOf_at, argsOf_d, argsOf_n, lnS_own, lnS_bor, lnS_fz, reS_o, reS_b, setF_d, setO_own, setO_fz, setO_at, notBor_fz, notBor_own, notBor_no, isOwn_own, isOwn_bor, addD_ii, addD_ss, addD_ll, addD_tt, subD_ii, mulD_ii, mulD_li, mulD_ti, fdivD_ii, modD_ii, powD_ii, negD_i, ltD_ii, leD_ii, gtD_ii, geD_ii, isQ_n, isQ_b, nisQ_n, isN_non, isN_bl, isN_int, isN_str, isN_tup, isN_lst, isN_rol, isN_dct, isT_int_non, isT_int_bl, isT_int_int, isT_int_str, isT_int_tup, isT_int_lst, isT_int_rol, isT_int_dct, isT_bool_non, isT_bool_bl, isT_bool_int, isT_bool_str, isT_bool_tup, isT_bool_lst, isT_bool_rol, isT_bool_dct, isT_str_non, isT_str_bl, isT_str_int, isT_str_str, isT_str_tup, isT_str_lst, isT_str_rol, isT_str_dct, isT_tuple_non, isT_tuple_bl, isT_tuple_int, isT_tuple_str, isT_tuple_tup, isT_tuple_lst, isT_tuple_rol, isT_tuple_dct, isT_list_non, isT_list_bl, isT_list_int, isT_list_str, isT_list_tup, isT_list_lst, isT_list_rol, isT_list_dct, isT_dict_non, isT_dict_bl, isT_dict_int, isT_dict_str, isT_dict_tup, isT_dict_lst, isT_dict_rol, isT_dict_dct, truQ_non, truQ_bl, truQ_int, truQ_tup, truQ_lst, blQ_bl, lenD_tup, lenD_lst, lenD_rol, lenD_str, tupD_tup, tupD_lst, lstD_tup, lstD_lst, lstD_rol, intD_i, intD_b, boolD_i, boolD_b, ixD_tup, ixD_lst, ixD_rol, slD_lst, slD_tup, intQ_i, appD_1, extD_1, lsQ_own, lsQ_bor, gTp_t, gsCons_c, seqQ_t, seqQ_l, seqQ_r, hideS_fz, hideS_own, hideS_bor, hideS_no, mmQ_ii, atI_0, atI_1, atI_2, List.map_cons, List.map_nil, List.replicate, List.cons_append, List.nil_append, List.append_nil, List.set, List.length_cons, List.length_nil, decide_eq_true_eq, if_true, if_false, Bool.not_true, Bool.not_false, Bool.false_eq_true, and_true, true_and, List.nodup_cons, List.not_mem_nil, not_false_eq_true, List.nodup_nil, List.mem_cons, or_false, List.getD, e])
      refine forL_ind (Inv := fun rest η => ∃ i ys s1 s2, rest = enmD i ys ∧ i + ys.length = ss.length ∧ η = [.fz (.tup ss), .fz (.tup ds), s1, s2] ∧ notBor s1 = true ∧ notBor s2 = true ∧ Q (.fz (firstN (pw ss) i ys)) []) ?_ ?_ _ _ ⟨0, ds, .no, .no, rfl, by omega, rfl, rfl, rfl, hQ⟩
      · rintro η ⟨i, ys, s1, s2, h1, hl, rfl, b1, b2, q⟩
        cases ys with
        | nil =>
          (try simp only [dSeq, dIfS, dRet, dRetN, dNext, dSet, dSetO, dDrop, dCall, callQ, dCallKw, dCons, dNil, dBor, dsQ, dTup, dLst, dV, dC, slot, dOp, dUn, dCmp, dCmpT, dChain, dChainT, dTru, dAnd, dOr, dNot, dAndV, dOrV, dNotV, dIf, dIsi, dNoO, dSoO, dSl, bodyQ, endsOf, outsOf, lents, putB, lentQ, dAsg, gNm, gsNil, iSeq, iRng, DL.iRng2, iEnm, dLm, dLm0, dPut, dMm, dYes, hQ, isSub, hideE, pick_0, pick_10, pick_210, rep2, kg, dFor, dLc, wipeD, restD, dPar, ixN3_0, ixN3_1, ixN3_2, ex_some, dRaise_1, dHeard_e, List.set_cons_zero, List.set_cons_succ, rdQ_fz, rdQ_own, rdQ_at, rdS_fz, rdS_own, rdS_bor, frzQ_fz, frzQ_own, frzQ_at, frS_fz, frS_own, nmQ_s, nmS_fz, nmS_own, nmS_bor, retQ_fz, retQ_own, retQ_at, rtS_fz, rtS_own, argsOf_at, argsOf_d, argsOf_n, lnS_own, lnS_bor, lnS_fz, reS_o, reS_b, setF_d, setO_own, setO_fz, setO_at, notBor_fz, notBor_own, notBor_no, isOwn_own, isOwn_bor, addD_ii, addD_ss, addD_ll, addD_tt, subD_ii, mulD_ii, mulD_li, mulD_ti, fdivD_ii, modD_ii, powD_ii, negD_i, ltD_ii, leD_ii, gtD_ii, geD_ii, isQ_n, isQ_b, nisQ_n, isN_non, isN_bl, isN_int, isN_str, isN_tup, isN_lst, isN_rol, isN_dct, isT_int_non, isT_int_bl, isT_int_int, isT_int_str, isT_int_tup, isT_int_lst, isT_int_rol, isT_int_dct, isT_bool_non, isT_bool_bl, isT_bool_int, isT_bool_str, isT_bool_tup, isT_bool_lst, isT_bool_rol, isT_bool_dct, isT_str_non, isT_str_bl, isT_str_int, isT_str_str, isT_str_tup, isT_str_lst, isT_str_rol, isT_str_dct, isT_tuple_non, isT_tuple_bl, isT_tuple_int, isT_tuple_str, isT_tuple_tup, isT_tuple_lst, isT_tuple_rol, isT_tuple_dct, isT_list_non, isT_list_bl, isT_list_int, isT_list_str, isT_list_tup, isT_list_lst, isT_list_rol, isT_list_dct, isT_dict_non, isT_dict_bl, isT_dict_int, isT_dict_str, isT_dict_tup, isT_dict_lst, isT_dict_rol, isT_dict_dct, truQ_non, truQ_bl, truQ_int, truQ_tup, truQ_lst, blQ_bl, lenD_tup, lenD_lst, lenD_rol, lenD_str, tupD_tup, tupD_lst, lstD_tup, lstD_lst, lstD_rol, intD_i, intD_b, boolD_i, boolD_b, ixD_tup, ixD_lst, ixD_rol, slD_lst, slD_tup, intQ_i, appD_1, extD_1, lsQ_own, lsQ_bor, gTp_t, gsCons_c, seqQ_t, seqQ_l, seqQ_r, hideS_fz, hideS_own, hideS_bor, hideS_no, mmQ_ii, atI_0, atI_1, atI_2, List.map_cons, List.map_nil, List.replicate, List.cons_append, List.nil_append, List.append_nil, List.set, List.length_cons, List.length_nil, decide_eq_true_eq, if_true, if_false, Bool.not_true, Bool.not_false, Bool.false_eq_true, and_true, true_and, List.nodup_cons, List.not_mem_nil, not_false_eq_true, List.nodup_nil, List.mem_cons, or_false, List.getD])
          all_goals exact q
        | cons y ys => cases h1
      · rintro d rest η K ⟨i, ys, s1, s2, h1, hl, rfl, b1, b2, q⟩ hK
        cases ys with
        | nil => cases h1
        | cons y ys =>
          obtain ⟨rfl, rfl⟩ := List.cons.inj h1
          have hi : i < ss.length := by simp at hl; omega
          (try simp only [dSeq, dIfS, dRet, dRetN, dNext, dSet, dSetO, dDrop, dCall, callQ, dCallKw, dCons, dNil, dBor, dsQ, dTup, dLst, dV, dC, slot, dOp, dUn, dCmp, dCmpT, dChain, dChainT, dTru, dAnd, dOr, dNot, dAndV, dOrV, dNotV, dIf, dIsi, dNoO, dSoO, dSl, bodyQ, endsOf, outsOf, lents, putB, lentQ, dAsg, gNm, gsNil, iSeq, iRng, DL.iRng2, iEnm, dLm, dLm0, dPut, dMm, dYes, hQ, isSub, hideE, pick_0, pick_10, pick_210, rep2, kg, dFor, dLc, wipeD, restD, dPar, ixN3_0, ixN3_1, ixN3_2, ex_some, dRaise_1, dHeard_e, List.set_cons_zero, List.set_cons_succ, rdQ_fz, rdQ_own, rdQ_at, rdS_fz, rdS_own, rdS_bor, frzQ_fz, frzQ_own, frzQ_at, frS_fz, frS_own, nmQ_s, nmS_fz, nmS_own, nmS_bor, retQ_fz, retQ_own, retQ_at, rtS_fz, rtS_own, argsOf_at, argsOf_d, argsOf_n, lnS_own, lnS_bor, lnS_fz, reS_o, reS_b, setF_d, setO_own, setO_fz, setO_at, notBor_fz, notBor_own, notBor_no, isOwn_own, isOwn_bor, addD_ii, addD_ss, addD_ll, addD_tt, subD_ii, mulD_ii, mulD_li, mulD_ti, fdivD_ii, modD_ii, powD_ii, negD_i, ltD_ii, leD_ii, gtD_ii, geD_ii, isQ_n, isQ_b, nisQ_n, isN_non, isN_bl, isN_int, isN_str, isN_tup, isN_lst, isN_rol, isN_dct, isT_int_non, isT_int_bl, isT_int_int, isT_int_str, isT_int_tup, isT_int_lst, isT_int_rol, isT_int_dct, isT_bool_non, isT_bool_bl, isT_bool_int, isT_bool_str, isT_bool_tup, isT_bool_lst, isT_bool_rol, isT_bool_dct, isT_str_non, isT_str_bl, isT_str_int, isT_str_str, isT_str_tup, isT_str_lst, isT_str_rol, isT_str_dct, isT_tuple_non, isT_tuple_bl, isT_tuple_int, isT_tuple_str, isT_tuple_tup, isT_tuple_lst, isT_tuple_rol, isT_tuple_dct, isT_list_non, isT_list_bl, isT_list_int, isT_list_str, isT_list_tup, isT_list_lst, isT_list_rol, isT_list_dct, isT_dict_non, isT_dict_bl, isT_dict_int, isT_dict_str, isT_dict_tup, isT_dict_lst, isT_dict_rol, isT_dict_dct, truQ_non, truQ_bl, truQ_int, truQ_tup, truQ_lst, blQ_bl, lenD_tup, lenD_lst, lenD_rol, lenD_str, tupD_tup, tupD_lst, lstD_tup, lstD_lst, lstD_rol, intD_i, intD_b, boolD_i, boolD_b, ixD_tup, ixD_lst, ixD_rol, slD_lst, slD_tup, intQ_i, appD_1, extD_1, lsQ_own, lsQ_bor, gTp_t, gsCons_c, seqQ_t, seqQ_l, seqQ_r, hideS_fz, hideS_own, hideS_bor, hideS_no, mmQ_ii, atI_0, atI_1, atI_2, List.map_cons, List.map_nil, List.replicate, List.cons_append, List.nil_append, List.append_nil, List.set, List.length_cons, List.length_nil, decide_eq_true_eq, if_true, if_false, Bool.not_true, Bool.not_false, Bool.false_eq_true, and_true, true_and, List.nodup_cons, List.not_mem_nil, not_false_eq_true, List.nodup_nil, List.mem_cons, or_false, List.getD, b1, b2])
          refine ⟨_, atI_nat (by omega) (hs.get (by simpa using hi)), ?_⟩
          (try simp only [dSeq, dIfS, dRet, dRetN, dNext, dSet, dSetO, dDrop, dCall, callQ, dCallKw, dCons, dNil, dBor, dsQ, dTup, dLst, dV, dC, slot, dOp, dUn, dCmp, dCmpT, dChain, dChainT, dTru, dAnd, dOr, dNot, dAndV, dOrV, dNotV, dIf, dIsi, dNoO, dSoO, dSl, bodyQ, endsOf, outsOf, lents, putB, lentQ, dAsg, gNm, gsNil, iSeq, iRng, DL.iRng2, iEnm, dLm, dLm0, dPut, dMm, dYes, hQ, isSub, hideE, pick_0, pick_10, pick_210, rep2, kg, dFor, dLc, wipeD, restD, dPar, ixN3_0, ixN3_1, ixN3_2, ex_some, dRaise_1, dHeard_e, List.set_cons_zero, List.set_cons_succ, rdQ_fz, rdQ_own, rdQ_at, rdS_fz, rdS_own, rdS_bor, frzQ_fz, frzQ_own, frzQ_at, frS_fz, frS_own, nmQ_s, nmS_fz, nmS_own, nmS_bor, retQ_fz, retQ_own, retQ_at, rtS_fz, rtS_own, argsOf_at, argsOf_d, argsOf_n, lnS_own, lnS_bor, lnS_fz, reS_o, reS_b, setF_d, setO_own, setO_fz, setO_at, notBor_fz, notBor_own, notBor_no, isOwn_own, isOwn_bor, addD_ii, addD_ss, addD_ll, addD_tt, subD_ii, mulD_ii, mulD_li, mulD_ti, fdivD_ii, modD_ii, powD_ii, negD_i, ltD_ii, leD_ii, gtD_ii, geD_ii, isQ_n, isQ_b, nisQ_n, isN_non, isN_bl, isN_int, isN_str, isN_tup, isN_lst, isN_rol, isN_dct, isT_int_non, isT_int_bl, isT_int_int, isT_int_str, isT_int_tup, isT_int_lst, isT_int_rol, isT_int_dct, isT_bool_non, isT_bool_bl, isT_bool_int, isT_bool_str, isT_bool_tup, isT_bool_lst, isT_bool_rol, isT_bool_dct, isT_str_non, isT_str_bl, isT_str_int, isT_str_str, isT_str_tup, isT_str_lst, isT_str_rol, isT_str_dct, isT_tuple_non, isT_tuple_bl, isT_tuple_int, isT_tuple_str, isT_tuple_tup, isT_tuple_lst, isT_tuple_rol, isT_tuple_dct, isT_list_non, isT_list_bl, isT_list_int, isT_list_str, isT_list_tup, isT_list_lst, isT_list_rol, isT_list_dct, isT_dict_non, isT_dict_bl, isT_dict_int, isT_dict_str, isT_dict_tup, isT_dict_lst, isT_dict_rol, isT_dict_dct, truQ_non, truQ_bl, truQ_int, truQ_tup, truQ_lst, blQ_bl, lenD_tup, lenD_lst, lenD_rol, lenD_str, tupD_tup, tupD_lst, lstD_tup, lstD_lst, lstD_rol, intD_i, intD_b, boolD_i, boolD_b, ixD_tup, ixD_lst, ixD_rol, slD_lst, slD_tup, intQ_i, appD_1, extD_1, lsQ_own, lsQ_bor, gTp_t, gsCons_c, seqQ_t, seqQ_l, seqQ_r, hideS_fz, hideS_own, hideS_bor, hideS_no, mmQ_ii, atI_0, atI_1, atI_2, List.map_cons, List.map_nil, List.replicate, List.cons_append, List.nil_append, List.append_nil, List.set, List.length_cons, List.length_nil, decide_eq_true_eq, if_true, if_false, Bool.not_true, Bool.not_false, Bool.false_eq_true, and_true, true_and, List.nodup_cons, List.not_mem_nil, not_false_eq_true, List.nodup_nil, List.mem_cons, or_false, List.getD])
          refine ⟨(by simp [lents, slot, Sl.isOwn]), w_below ?_⟩
          (try simp only [dSeq, dIfS, dRet, dRetN, dNext, dSet, dSetO, dDrop, dCall, callQ, dCallKw, dCons, dNil, dBor, dsQ, dTup, dLst, dV, dC, slot, dOp, dUn, dCmp, dCmpT, dChain, dChainT, dTru, dAnd, dOr, dNot, dAndV, dOrV, dNotV, dIf, dIsi, dNoO, dSoO, dSl, bodyQ, endsOf, outsOf, lents, putB, lentQ, dAsg, gNm, gsNil, iSeq, iRng, DL.iRng2, iEnm, dLm, dLm0, dPut, dMm, dYes, hQ, isSub, hideE, pick_0, pick_10, pick_210, rep2, kg, dFor, dLc, wipeD, restD, dPar, ixN3_0, ixN3_1, ixN3_2, ex_some, dRaise_1, dHeard_e, List.set_cons_zero, List.set_cons_succ, rdQ_fz, rdQ_own, rdQ_at, rdS_fz, rdS_own, rdS_bor, frzQ_fz, frzQ_own, frzQ_at, frS_fz, frS_own, nmQ_s, nmS_fz, nmS_own, nmS_bor, retQ_fz, retQ_own, retQ_at, rtS_fz, rtS_own, argsOf_at, argsOf_d, argsOf_n, lnS_own, lnS_bor, lnS_fz, reS_o, reS_b, setF_d, setO_own, setO_fz, setO_at, notBor_fz, notBor_own, notBor_no, isOwn_own, isOwn_bor, addD_ii, addD_ss, addD_ll, addD_tt, subD_ii, mulD_ii, mulD_li, mulD_ti, fdivD_ii, modD_ii, powD_ii, negD_i, ltD_ii, leD_ii, gtD_ii, geD_ii, isQ_n, isQ_b, nisQ_n, isN_non, isN_bl, isN_int, isN_str, isN_tup, isN_lst, isN_rol, isN_dct, isT_int_non, isT_int_bl, isT_int_int, isT_int_str, isT_int_tup, isT_int_lst, isT_int_rol, isT_int_dct, isT_bool_non, isT_bool_bl, isT_bool_int, isT_bool_str, isT_bool_tup, isT_bool_lst, isT_bool_rol, isT_bool_dct, isT_str_non, isT_str_bl, isT_str_int, isT_str_str, isT_str_tup, isT_str_lst, isT_str_rol, isT_str_dct, isT_tuple_non, isT_tuple_bl, isT_tuple_int, isT_tuple_str, isT_tuple_tup, isT_tuple_lst, isT_tuple_rol, isT_tuple_dct, isT_list_non, isT_list_bl, isT_list_int, isT_list_str, isT_list_tup, isT_list_lst, isT_list_rol, isT_list_dct, isT_dict_non, isT_dict_bl, isT_dict_int, isT_dict_str, isT_dict_tup, isT_dict_lst, isT_dict_rol, isT_dict_dct, truQ_non, truQ_bl, truQ_int, truQ_tup, truQ_lst, blQ_bl, lenD_tup, lenD_lst, lenD_rol, lenD_str, tupD_tup, tupD_lst, lstD_tup, lstD_lst, lstD_rol, intD_i, intD_b, boolD_i, boolD_b, ixD_tup, ixD_lst, ixD_rol, slD_lst, slD_tup, intQ_i, appD_1, extD_1, lsQ_own, lsQ_bor, gTp_t, gsCons_c, seqQ_t, seqQ_l, seqQ_r, hideS_fz, hideS_own, hideS_bor, hideS_no, mmQ_ii, atI_0, atI_1, atI_2, List.map_cons, List.map_nil, List.replicate, List.cons_append, List.nil_append, List.append_nil, List.set, List.length_cons, List.length_nil, decide_eq_true_eq, if_true, if_false, Bool.not_true, Bool.not_false, Bool.false_eq_true, and_true, true_and, List.nodup_cons, List.not_mem_nil, not_false_eq_true, List.nodup_nil, List.mem_cons, or_false, List.getD])
          unfold firstN at q
          have ei : (Int.toNat (i : Int)) = i := by omega
          rw [ei]
          by_cases c : pw ss i y = true
          · rw [if_pos c] at q
            have c' : betw 0 (szA ss i - 1) y = true := c
            (try simp only [dSeq, dIfS, dRet, dRetN, dNext, dSet, dSetO, dDrop, dCall, callQ, dCallKw, dCons, dNil, dBor, dsQ, dTup, dLst, dV, dC, slot, dOp, dUn, dCmp, dCmpT, dChain, dChainT, dTru, dAnd, dOr, dNot, dAndV, dOrV, dNotV, dIf, dIsi, dNoO, dSoO, dSl, bodyQ, endsOf, outsOf, lents, putB, lentQ, dAsg, gNm, gsNil, iSeq, iRng, DL.iRng2, iEnm, dLm, dLm0, dPut, dMm, dYes, hQ, isSub, hideE, pick_0, pick_10, pick_210, rep2, kg, dFor, dLc, wipeD, restD, dPar, ixN3_0, ixN3_1, ixN3_2, ex_some, dRaise_1, dHeard_e, List.set_cons_zero, List.set_cons_succ, rdQ_fz, rdQ_own, rdQ_at, rdS_fz, rdS_own, rdS_bor, frzQ_fz, frzQ_own, frzQ_at, frS_fz, frS_own, nmQ_s, nmS_fz, nmS_own, nmS_bor, retQ_fz, retQ_own, retQ_at, rtS_fz, rtS_own, argsOf_at, argsOf_d, argsOf_n, lnS_own, lnS_bor, lnS_fz, reS_o, reS_b, setF_d, setO_own, setO_fz, setO_at, notBor_fz, notBor_own, notBor_no, isOwn_own, isOwn_bor, addD_ii, addD_ss, addD_ll, addD_tt, subD_ii, mulD_ii, mulD_li, mulD_ti, fdivD_ii, modD_ii, powD_ii, negD_i, ltD_ii, leD_ii, gtD_ii, geD_ii, isQ_n, isQ_b, nisQ_n, isN_non, isN_bl, isN_int, isN_str, isN_tup, isN_lst, isN_rol, isN_dct, isT_int_non, isT_int_bl, isT_int_int, isT_int_str, isT_int_tup, isT_int_lst, isT_int_rol, isT_int_dct, isT_bool_non, isT_bool_bl, isT_bool_int, isT_bool_str, isT_bool_tup, isT_bool_lst, isT_bool_rol, isT_bool_dct, isT_str_non, isT_str_bl, isT_str_int, isT_str_str, isT_str_tup, isT_str_lst, isT_str_rol, isT_str_dct, isT_tuple_non, isT_tuple_bl, isT_tuple_int, isT_tuple_str, isT_tuple_tup, isT_tuple_lst, isT_tuple_rol, isT_tuple_dct, isT_list_non, isT_list_bl, isT_list_int, isT_list_str, isT_list_tup, isT_list_lst, isT_list_rol, isT_list_dct, isT_dict_non, isT_dict_bl, isT_dict_int, isT_dict_str, isT_dict_tup, isT_dict_lst, isT_dict_rol, isT_dict_dct, truQ_non, truQ_bl, truQ_int, truQ_tup, truQ_lst, blQ_bl, lenD_tup, lenD_lst, lenD_rol, lenD_str, tupD_tup, tupD_lst, lstD_tup, lstD_lst, lstD_rol, intD_i, intD_b, boolD_i, boolD_b, ixD_tup, ixD_lst, ixD_rol, slD_lst, slD_tup, intQ_i, appD_1, extD_1, lsQ_own, lsQ_bor, gTp_t, gsCons_c, seqQ_t, seqQ_l, seqQ_r, hideS_fz, hideS_own, hideS_bor, hideS_no, mmQ_ii, atI_0, atI_1, atI_2, List.map_cons, List.map_nil, List.replicate, List.cons_append, List.nil_append, List.append_nil, List.set, List.length_cons, List.length_nil, decide_eq_true_eq, if_true, if_false, Bool.not_true, Bool.not_false, Bool.false_eq_true, and_true, true_and, List.nodup_cons, List.not_mem_nil, not_false_eq_true, List.nodup_nil, List.mem_cons, or_false, List.getD, c'])
            exact hK _ ⟨i + 1, ys, _, _, rfl, by simp at hl; omega, rfl, rfl, rfl, q⟩
          · rw [if_neg c] at q
            have c' : betw 0 (szA ss i - 1) y = false := by simpa [pw] using c
            (try simp only [dSeq, dIfS, dRet, dRetN, dNext, dSet, dSetO, dDrop, dCall, callQ, dCallKw, dCons, dNil, dBor, dsQ, dTup, dLst, dV, dC, slot, dOp, dUn, dCmp, dCmpT, dChain, dChainT, dTru, dAnd, dOr, dNot, dAndV, dOrV, dNotV, dIf, dIsi, dNoO, dSoO, dSl, bodyQ, endsOf, outsOf, lents, putB, lentQ, dAsg, gNm, gsNil, iSeq, iRng, DL.iRng2, iEnm, dLm, dLm0, dPut, dMm, dYes, hQ, isSub, hideE, pick_0, pick_10, pick_210, rep2, kg, dFor, dLc, wipeD, restD, dPar, ixN3_0, ixN3_1, ixN3_2, ex_some, dRaise_1, dHeard_e, List.set_cons_zero, List.set_cons_succ, rdQ_fz, rdQ_own, rdQ_at, rdS_fz, rdS_own, rdS_bor, frzQ_fz, frzQ_own, frzQ_at, frS_fz, frS_own, nmQ_s, nmS_fz, nmS_own, nmS_bor, retQ_fz, retQ_own, retQ_at, rtS_fz, rtS_own, argsOf_at, argsOf_d, argsOf_n, lnS_own, lnS_bor, lnS_fz, reS_o, reS_b, setF_d, setO_own, setO_fz, setO_at, notBor_fz, notBor_own, notBor_no, isOwn_own, isOwn_bor, addD_ii, addD_ss, addD_ll, addD_tt, subD_ii, mulD_ii, mulD_li, mulD_ti, fdivD_ii, modD_ii, powD_ii, negD_i, ltD_ii, leD_ii, gtD_ii, geD_ii, isQ_n, isQ_b, nisQ_n, isN_non, isN_bl, isN_int, isN_str, isN_tup, isN_lst, isN_rol, isN_dct, isT_int_non, isT_int_bl, isT_int_int, isT_int_str, isT_int_tup, isT_int_lst, isT_int_rol, isT_int_dct, isT_bool_non, isT_bool_bl, isT_bool_int, isT_bool_str, isT_bool_tup, isT_bool_lst, isT_bool_rol, isT_bool_dct, isT_str_non, isT_str_bl, isT_str_int, isT_str_str, isT_str_tup, isT_str_lst, isT_str_rol, isT_str_dct, isT_tuple_non, isT_tuple_bl, isT_tuple_int, isT_tuple_str, isT_tuple_tup, isT_tuple_lst, isT_tuple_rol, isT_tuple_dct, isT_list_non, isT_list_bl, isT_list_int, isT_list_str, isT_list_tup, isT_list_lst, isT_list_rol, isT_list_dct, isT_dict_non, isT_dict_bl, isT_dict_int, isT_dict_str, isT_dict_tup, isT_dict_lst, isT_dict_rol, isT_dict_dct, truQ_non, truQ_bl, truQ_int, truQ_tup, truQ_lst, blQ_bl, lenD_tup, lenD_lst, lenD_rol, lenD_str, tupD_tup, tupD_lst, lstD_tup, lstD_lst, lstD_rol, intD_i, intD_b, boolD_i, boolD_b, ixD_tup, ixD_lst, ixD_rol, slD_lst, slD_tup, intQ_i, appD_1, extD_1, lsQ_own, lsQ_bor, gTp_t, gsCons_c, seqQ_t, seqQ_l, seqQ_r, hideS_fz, hideS_own, hideS_bor, hideS_no, mmQ_ii, atI_0, atI_1, atI_2, List.map_cons, List.map_nil, List.replicate, List.cons_append, List.nil_append, List.append_nil, List.set, List.length_cons, List.length_nil, decide_eq_true_eq, if_true, if_false, Bool.not_true, Bool.not_false, Bool.false_eq_true, and_true, true_and, List.nodup_cons, List.not_mem_nil, not_false_eq_true, List.nodup_nil, List.mem_cons, or_false, List.getD, c'])
            all_goals exact q
    · rw [if_neg hc] at hQ
      have e : eqD (.int (ds.length : Nat)) (.int (ss.length : Nat)) = false := by
        rw [eqD_int]
        simp; omega
      (try simp only [dSeq, dIfS, dRet, dRetN, dNext, dSet, dSetO, dDrop, dCall, callQ, dCallKw, dCons, dNil, dBor, dsQ, dTup, dLst, dV, dC, slot, dOp, dUn, dCmp, dCmpT, dChain, dChainT, dTru, dAnd, dOr, dNot, dAndV, dOrV, dNotV, dIf, dIsi, dNoO, dSoO, dSl, bodyQ, endsOf, outsOf, lents, putB, lentQ, dAsg, gNm, gsNil, iSeq, iRng, DL.iRng2, iEnm, dLm, dLm0, dPut, dMm, dYes, hQ, isSub, hideE, pick_0, pick_10, pick_210, rep2, kg, dFor, dLc, wipeD, restD, dPar, ixN3_0, ixN3_1, ixN3_2, ex_some, dRaise_1, dHeard_e, List.set_cons_zero, List.set_cons_succ, rdQ_fz, rdQ_own, rdQ_at, rdS_fz, rdS_own, rdS_bor, frzQ_fz, frzQ_own, frzQ_at, frS_fz, frS_own, nmQ_s, nmS_fz, nmS_own, nmS_bor, retQ_fz, retQ_own, retQ_at, rtS_fz, rtS_own, argsOf_at, argsOf_d, argsOf_n, lnS_own, lnS_bor, lnS_fz, reS_o, reS_b, setF_d, setO_own, setO_fz, setO_at, notBor_fz, notBor_own, notBor_no, isOwn_own, isOwn_bor, addD_ii, addD_ss, addD_ll, addD_tt, subD_ii, mulD_ii, mulD_li, mulD_ti, fdivD_ii, modD_ii, powD_ii, negD_i, ltD_ii, leD_ii, gtD_ii, geD_ii, isQ_n, isQ_b, nisQ_n, isN_non, isN_bl, isN_int, isN_str, isN_tup, isN_lst, isN_rol, isN_dct, isT_int_non, isT_int_bl, isT_int_int, isT_int_str, isT_int_tup, isT_int_lst, isT_int_rol, isT_int_dct, isT_bool_non, isT_bool_bl, isT_bool_int, isT_bool_str, isT_bool_tup, isT_bool_lst, isT_bool_rol, isT_bool_dct, isT_str_non, isT_str_bl, isT_str_int, isT_str_str, isT_str_tup, isT_str_lst, isT_str_rol, isT_str_dct, isT_tuple_non, isT_tuple_bl, isT_tuple_int, isT_tuple_str, isT_tuple_tup, isT_tuple_lst, isT_tuple_rol, isT_tuple_dct, isT_list_non, isT_list_bl, isT_list_int, isT_list_str, isT_list_tup, isT_list_lst, isT_list_rol, isT_list_dct, isT_dict_non, isT_dict_bl, isT_dict_int, isT_dict_str, isT_dict_tup, isT_dict_lst, isT_dict_rol, isT_dict_dct, truQ_non, truQ_bl, truQ_int, truQ_tup, truQ_lst, blQ_bl, lenD_tup, lenD_lst, lenD_rol, lenD_str, tupD_tup, tupD_lst, lstD_tup, lstD_lst, lstD_rol, intD_i, intD_b, boolD_i, boolD_b, ixD_tup, ixD_lst, ixD_rol, slD_lst, slD_tup, intQ_i, appD_1, extD_1, lsQ_own, lsQ_bor, gTp_t, gsCons_c, seqQ_t, seqQ_l, seqQ_r, hideS_fz, hideS_own, hideS_bor, hideS_no, mmQ_ii, atI_0, atI_1, atI_2, List.map_cons, List.map_nil, List.replicate, List.cons_append, List.nil_append, List.append_nil, List.set, List.length_cons, List.length_nil, decide_eq_true_eq, if_true, if_false, Bool.not_true, Bool.not_false, Bool.false_eq_true, and_true, true_and, List.nodup_cons, List.not_mem_nil, not_false_eq_true, List.nodup_nil, List.mem_cons, or_false, List.getD, e])
      all_goals exact hQ
  all_goals ((try simp only [dSeq, dIfS, dRet, dRetN, dNext, dSet, dSetO, dDrop, dCall, callQ, dCallKw, dCons, dNil, dBor, dsQ, dTup, dLst, dV, dC, slot, dOp, dUn, dCmp, dCmpT, dChain, dChainT, dTru, dAnd, dOr, dNot, dAndV, dOrV, dNotV, dIf, dIsi, dNoO, dSoO, dSl, bodyQ, endsOf, outsOf, lents, putB, lentQ, dAsg, gNm, gsNil, iSeq, iRng, DL.iRng2, iEnm, dLm, dLm0, dPut, dMm, dYes, hQ, isSub, hideE, pick_0, pick_10, pick_210, rep2, kg, dFor, dLc, wipeD, restD, dPar, ixN3_0, ixN3_1, ixN3_2, ex_some, dRaise_1, dHeard_e, List.set_cons_zero, List.set_cons_succ, rdQ_fz, rdQ_own, rdQ_at, rdS_fz, rdS_own, rdS_bor, frzQ_fz, frzQ_own, frzQ_at, frS_fz, frS_own, nmQ_s, nmS_fz, nmS_own, nmS_bor, retQ_fz, retQ_own, retQ_at, rtS_fz, rtS_own, argsOf_at, argsOf_d, argsOf_n, lnS_own, lnS_bor, lnS_fz, reS_o, reS_b, setF_d, setO_own, setO_fz, setO_at, notBor_fz, notBor_own, notBor_no, isOwn_own, isOwn_bor, addD_ii, addD_ss, addD_ll, addD_tt, subD_ii, mulD_ii, mulD_li, mulD_ti, fdivD_ii, modD_ii, powD_ii, negD_i, ltD_ii, leD_ii, gtD_ii, geD_ii, isQ_n, isQ_b, nisQ_n, isN_non, isN_bl, isN_int, isN_str, isN_tup, isN_lst, isN_rol, isN_dct, isT_int_non, isT_int_bl, isT_int_int, isT_int_str, isT_int_tup, isT_int_lst, isT_int_rol, isT_int_dct, isT_bool_non, isT_bool_bl, isT_bool_int, isT_bool_str, isT_bool_tup, isT_bool_lst, isT_bool_rol, isT_bool_dct, isT_str_non, isT_str_bl, isT_str_int, isT_str_str, isT_str_tup, isT_str_lst, isT_str_rol, isT_str_dct, isT_tuple_non, isT_tuple_bl, isT_tuple_int, isT_tuple_str, isT_tuple_tup, isT_tuple_lst, isT_tuple_rol, isT_tuple_dct, isT_list_non, isT_list_bl, isT_list_int, isT_list_str, isT_list_tup, isT_list_lst, isT_list_rol, isT_list_dct, isT_dict_non, isT_dict_bl, isT_dict_int, isT_dict_str, isT_dict_tup, isT_dict_lst, isT_dict_rol, isT_dict_dct, truQ_non, truQ_bl, truQ_int, truQ_tup, truQ_lst, blQ_bl, lenD_tup, lenD_lst, lenD_rol, lenD_str, tupD_tup, tupD_lst, lstD_tup, lstD_lst, lstD_rol, intD_i, intD_b, boolD_i, boolD_b, ixD_tup, ixD_lst, ixD_rol, slD_lst, slD_tup, intQ_i, appD_1, extD_1, lsQ_own, lsQ_bor, gTp_t, gsCons_c, seqQ_t, seqQ_l, seqQ_r, hideS_fz, hideS_own, hideS_bor, hideS_no, mmQ_ii, atI_0, atI_1, atI_2, List.map_cons, List.map_nil, List.replicate, List.cons_append, List.nil_append, List.append_nil, List.set, List.length_cons, List.length_nil, decide_eq_true_eq, if_true, if_false, Bool.not_true, Bool.not_false, Bool.false_eq_true, and_true, true_and, List.nodup_cons, List.not_mem_nil, not_false_eq_true, List.nodup_nil, List.mem_cons, or_false, List.getD, td_wrong_worth]); exact hQ)
/-- what is_page says of s, d -/
def isPg (s d : D) : Bool := match s with
  | .tup ss => if isN (wsD (.tup ss)) = true then isN (wwD ss d) else false
  | _ => false
theorem isN_eq {d : D} (h : isN d = true) : d = .non := by cases d <;> first | rfl | cases h
theorem ints_of {ss : List D} (h : isN (wsD (.tup ss)) = true) : Ints ss := fun d hd => by
  obtain ⟨j, hj⟩ := List.mem_iff_getElem?.mp hd
  obtain ⟨i, e, _⟩ := (w_sizes_ok (isN_eq h)).2.2 j d hj
  exact ⟨i, e⟩
theorem w_is_page {s d : D} {Q : Rv → List OC → Prop} {ED : Nat → D → Prop} (hQ : Q (.fz (.bl (isPg s d))) []) : sp_is_page [.fz s, .fz d] Q ED := by
  refine ⟨rfl, ?_⟩
  (try simp only [dSeq, dIfS, dRet, dRetN, dNext, dSet, dSetO, dDrop, dCall, callQ, dCallKw, dCons, dNil, dBor, dsQ, dTup, dLst, dV, dC, slot, dOp, dUn, dCmp, dCmpT, dChain, dChainT, dTru, dAnd, dOr, dNot, dAndV, dOrV, dNotV, dIf, dIsi, dNoO, dSoO, dSl, bodyQ, endsOf, outsOf, lents, putB, lentQ, dAsg, gNm, gsNil, iSeq, iRng, DL.iRng2, iEnm, dLm, dLm0, dPut, dMm, dYes, hQ, isSub, hideE, pick_0, pick_10, pick_210, rep2, kg, dFor, dLc, wipeD, restD, dPar, ixN3_0, ixN3_1, ixN3_2, ex_some, dRaise_1, dHeard_e, List.set_cons_zero, List.set_cons_succ, rdQ_fz, rdQ_own, rdQ_at, rdS_fz, rdS_own, rdS_bor, frzQ_fz, frzQ_own, frzQ_at, frS_fz, frS_own, nmQ_s, nmS_fz, nmS_own, nmS_bor, retQ_fz, retQ_own, retQ_at, rtS_fz, rtS_own, argsOf_at, argsOf_d, argsOf_n, lnS_own, lnS_bor, lnS_fz, reS_o, reS_b, setF_d, setO_own, setO_fz, setO_at, notBor_fz, notBor_own, notBor_no, isOwn_own, isOwn_bor, addD_ii, addD_ss, addD_ll, addD_tt, subD_ii, mulD_ii, mulD_li, mulD_ti, fdivD_ii, modD_ii, powD_ii, negD_i, ltD_ii, leD_ii, gtD_ii, geD_ii, isQ_n, isQ_b, nisQ_n, isN_non, isN_bl, isN_int, isN_str, isN_tup, isN_lst, isN_rol, isN_dct, isT_int_non, isT_int_bl, isT_int_int, isT_int_str, isT_int_tup, isT_int_lst, isT_int_rol, isT_int_dct, isT_bool_non, isT_bool_bl, isT_bool_int, isT_bool_str, isT_bool_tup, isT_bool_lst, isT_bool_rol, isT_bool_dct, isT_str_non, isT_str_bl, isT_str_int, isT_str_str, isT_str_tup, isT_str_lst, isT_str_rol, isT_str_dct, isT_tuple_non, isT_tuple_bl, isT_tuple_int, isT_tuple_str, isT_tuple_tup, isT_tuple_lst, isT_tuple_rol, isT_tuple_dct, isT_list_non, isT_list_bl, isT_list_int, isT_list_str, isT_list_tup, isT_list_lst, isT_list_rol, isT_list_dct, isT_dict_non, isT_dict_bl, isT_dict_int, isT_dict_str, isT_dict_tup, isT_dict_lst, isT_dict_rol, isT_dict_dct, truQ_non, truQ_bl, truQ_int, truQ_tup, truQ_lst, blQ_bl, lenD_tup, lenD_lst, lenD_rol, lenD_str, tupD_tup, tupD_lst, lstD_tup, lstD_lst, lstD_rol, intD_i, intD_b, boolD_i, boolD_b, ixD_tup, ixD_lst, ixD_rol, slD_lst, slD_tup, intQ_i, appD_1, extD_1, lsQ_own, lsQ_bor, gTp_t, gsCons_c, seqQ_t, seqQ_l, seqQ_r, hideS_fz, hideS_own, hideS_bor, hideS_no, mmQ_ii, atI_0, atI_1, atI_2, List.map_cons, List.map_nil, List.replicate, List.cons_append, List.nil_append, List.append_nil, List.set, List.length_cons, List.length_nil, decide_eq_true_eq, if_true, if_false, Bool.not_true, Bool.not_false, Bool.false_eq_true, and_true, true_and, List.nodup_cons, List.not_mem_nil, not_false_eq_true, List.nodup_nil, List.mem_cons, or_false, List.getD, td_is_page])
  refine ⟨(by simp [lents, slot, Sl.isOwn]), w_is_sizes ?_⟩
  (try simp only [dSeq, dIfS, dRet, dRetN, dNext, dSet, dSetO, dDrop, dCall, callQ, dCallKw, dCons, dNil, dBor, dsQ, dTup, dLst, dV, dC, slot, dOp, dUn, dCmp, dCmpT, dChain, dChainT, dTru, dAnd, dOr, dNot, dAndV, dOrV, dNotV, dIf, dIsi, dNoO, dSoO, dSl, bodyQ, endsOf, outsOf, lents, putB, lentQ, dAsg, gNm, gsNil, iSeq, iRng, DL.iRng2, iEnm, dLm, dLm0, dPut, dMm, dYes, hQ, isSub, hideE, pick_0, pick_10, pick_210, rep2, kg, dFor, dLc, wipeD, restD, dPar, ixN3_0, ixN3_1, ixN3_2, ex_some, dRaise_1, dHeard_e, List.set_cons_zero, List.set_cons_succ, rdQ_fz, rdQ_own, rdQ_at, rdS_fz, rdS_own, rdS_bor, frzQ_fz, frzQ_own, frzQ_at, frS_fz, frS_own, nmQ_s, nmS_fz, nmS_own, nmS_bor, retQ_fz, retQ_own, retQ_at, rtS_fz, rtS_own, argsOf_at, argsOf_d, argsOf_n, lnS_own, lnS_bor, lnS_fz, reS_o, reS_b, setF_d, setO_own, setO_fz, setO_at, notBor_fz, notBor_own, notBor_no, isOwn_own, isOwn_bor, addD_ii, addD_ss, addD_ll, addD_tt, subD_ii, mulD_ii, mulD_li, mulD_ti, fdivD_ii, modD_ii, powD_ii, negD_i, ltD_ii, leD_ii, gtD_ii, geD_ii, isQ_n, isQ_b, nisQ_n, isN_non, isN_bl, isN_int, isN_str, isN_tup, isN_lst, isN_rol, isN_dct, isT_int_non, isT_int_bl, isT_int_int, isT_int_str, isT_int_tup, isT_int_lst, isT_int_rol, isT_int_dct, isT_bool_non, isT_bool_bl, isT_bool_int, isT_bool_str, isT_bool_tup, isT_bool_lst, isT_bool_rol, isT_bool_dct, isT_str_non, isT_str_bl, isT_str_int, isT_str_str, isT_str_tup, isT_str_lst, isT_str_rol, isT_str_dct, isT_tuple_non, isT_tuple_bl, isT_tuple_int, isT_tuple_str, isT_tuple_tup, isT_tuple_lst, isT_tuple_rol, isT_tuple_dct, isT_list_non, isT_list_bl, isT_list_int, isT_list_str, isT_list_tup, isT_list_lst, isT_list_rol, isT_list_dct, isT_dict_non, isT_dict_bl, isT_dict_int, isT_dict_str, isT_dict_tup, isT_dict_lst, isT_dict_rol, isT_dict_dct, truQ_non, truQ_bl, truQ_int, truQ_tup, truQ_lst, blQ_bl, lenD_tup, lenD_lst, lenD_rol, lenD_str, tupD_tup, tupD_lst, lstD_tup, lstD_lst, lstD_rol, intD_i, intD_b, boolD_i, boolD_b, ixD_tup, ixD_lst, ixD_rol, slD_lst, slD_tup, intQ_i, appD_1, extD_1, lsQ_own, lsQ_bor, gTp_t, gsCons_c, seqQ_t, seqQ_l, seqQ_r, hideS_fz, hideS_own, hideS_bor, hideS_no, mmQ_ii, atI_0, atI_1, atI_2, List.map_cons, List.map_nil, List.replicate, List.cons_append, List.nil_append, List.append_nil, List.set, List.length_cons, List.length_nil, decide_eq_true_eq, if_true, if_false, Bool.not_true, Bool.not_false, Bool.false_eq_true, and_true, true_and, List.nodup_cons, List.not_mem_nil, not_false_eq_true, List.nodup_nil, List.mem_cons, or_false, List.getD])
  by_cases c : isN (wsD s) = true
  · have hs : ∃ ss, s = .tup ss := by
      cases s <;> first | exact ⟨_, rfl⟩ | cases c
    obtain ⟨ss, rfl⟩ := hs
    (try simp only [dSeq, dIfS, dRet, dRetN, dNext, dSet, dSetO, dDrop, dCall, callQ, dCallKw, dCons, dNil, dBor, dsQ, dTup, dLst, dV, dC, slot, dOp, dUn, dCmp, dCmpT, dChain, dChainT, dTru, dAnd, dOr, dNot, dAndV, dOrV, dNotV, dIf, dIsi, dNoO, dSoO, dSl, bodyQ, endsOf, outsOf, lents, putB, lentQ, dAsg, gNm, gsNil, iSeq, iRng, DL.iRng2, iEnm, dLm, dLm0, dPut, dMm, dYes, hQ, isSub, hideE, pick_0, pick_10, pick_210, rep2, kg, dFor, dLc, wipeD, restD, dPar, ixN3_0, ixN3_1, ixN3_2, ex_some, dRaise_1, dHeard_e, List.set_cons_zero, List.set_cons_succ, rdQ_fz, rdQ_own, rdQ_at, rdS_fz, rdS_own, rdS_bor, frzQ_fz, frzQ_own, frzQ_at, frS_fz, frS_own, nmQ_s, nmS_fz, nmS_own, nmS_bor, retQ_fz, retQ_own, retQ_at, rtS_fz, rtS_own, argsOf_at, argsOf_d, argsOf_n, lnS_own, lnS_bor, lnS_fz, reS_o, reS_b, setF_d, setO_own, setO_fz, setO_at, notBor_fz, notBor_own, notBor_no, isOwn_own, isOwn_bor, addD_ii, addD_ss, addD_ll, addD_tt, subD_ii, mulD_ii, mulD_li, mulD_ti, fdivD_ii, modD_ii, powD_ii, negD_i, ltD_ii, leD_ii, gtD_ii, geD_ii, isQ_n, isQ_b, nisQ_n, isN_non, isN_bl, isN_int, isN_str, isN_tup, isN_lst, isN_rol, isN_dct, isT_int_non, isT_int_bl, isT_int_int, isT_int_str, isT_int_tup, isT_int_lst, isT_int_rol, isT_int_dct, isT_bool_non, isT_bool_bl, isT_bool_int, isT_bool_str, isT_bool_tup, isT_bool_lst, isT_bool_rol, isT_bool_dct, isT_str_non, isT_str_bl, isT_str_int, isT_str_str, isT_str_tup, isT_str_lst, isT_str_rol, isT_str_dct, isT_tuple_non, isT_tuple_bl, isT_tuple_int, isT_tuple_str, isT_tuple_tup, isT_tuple_lst, isT_tuple_rol, isT_tuple_dct, isT_list_non, isT_list_bl, isT_list_int, isT_list_str, isT_list_tup, isT_list_lst, isT_list_rol, isT_list_dct, isT_dict_non, isT_dict_bl, isT_dict_int, isT_dict_str, isT_dict_tup, isT_dict_lst, isT_dict_rol, isT_dict_dct, truQ_non, truQ_bl, truQ_int, truQ_tup, truQ_lst, blQ_bl, lenD_tup, lenD_lst, lenD_rol, lenD_str, tupD_tup, tupD_lst, lstD_tup, lstD_lst, lstD_rol, intD_i, intD_b, boolD_i, boolD_b, ixD_tup, ixD_lst, ixD_rol, slD_lst, slD_tup, intQ_i, appD_1, extD_1, lsQ_own, lsQ_bor, gTp_t, gsCons_c, seqQ_t, seqQ_l, seqQ_r, hideS_fz, hideS_own, hideS_bor, hideS_no, mmQ_ii, atI_0, atI_1, atI_2, List.map_cons, List.map_nil, List.replicate, List.cons_append, List.nil_append, List.append_nil, List.set, List.length_cons, List.length_nil, decide_eq_true_eq, if_true, if_false, Bool.not_true, Bool.not_false, Bool.false_eq_true, and_true, true_and, List.nodup_cons, List.not_mem_nil, not_false_eq_true, List.nodup_nil, List.mem_cons, or_false, List.getD, c])
    refine ⟨(by simp [lents, slot, Sl.isOwn]), w_wrong_worth (ints_of c) ?_⟩
    (try simp only [dSeq, dIfS, dRet, dRetN, dNext, dSet, dSetO, dDrop, dCall, callQ, dCallKw, dCons, dNil, dBor, dsQ, dTup, dLst, dV, dC, slot, dOp, dUn, dCmp, dCmpT, dChain, dChainT, dTru, dAnd, dOr, dNot, dAndV, dOrV, dNotV, dIf, dIsi, dNoO, dSoO, dSl, bodyQ, endsOf, outsOf, lents, putB, lentQ, dAsg, gNm, gsNil, iSeq, iRng, DL.iRng2, iEnm, dLm, dLm0, dPut, dMm, dYes, hQ, isSub, hideE, pick_0, pick_10, pick_210, rep2, kg, dFor, dLc, wipeD, restD, dPar, ixN3_0, ixN3_1, ixN3_2, ex_some, dRaise_1, dHeard_e, List.set_cons_zero, List.set_cons_succ, rdQ_fz, rdQ_own, rdQ_at, rdS_fz, rdS_own, rdS_bor, frzQ_fz, frzQ_own, frzQ_at, frS_fz, frS_own, nmQ_s, nmS_fz, nmS_own, nmS_bor, retQ_fz, retQ_own, retQ_at, rtS_fz, rtS_own, argsOf_at, argsOf_d, argsOf_n, lnS_own, lnS_bor, lnS_fz, reS_o, reS_b, setF_d, setO_own, setO_fz, setO_at, notBor_fz, notBor_own, notBor_no, isOwn_own, isOwn_bor, addD_ii, addD_ss, addD_ll, addD_tt, subD_ii, mulD_ii, mulD_li, mulD_ti, fdivD_ii, modD_ii, powD_ii, negD_i, ltD_ii, leD_ii, gtD_ii, geD_ii, isQ_n, isQ_b, nisQ_n, isN_non, isN_bl, isN_int, isN_str, isN_tup, isN_lst, isN_rol, isN_dct, isT_int_non, isT_int_bl, isT_int_int, isT_int_str, isT_int_tup, isT_int_lst, isT_int_rol, isT_int_dct, isT_bool_non, isT_bool_bl, isT_bool_int, isT_bool_str, isT_bool_tup, isT_bool_lst, isT_bool_rol, isT_bool_dct, isT_str_non, isT_str_bl, isT_str_int, isT_str_str, isT_str_tup, isT_str_lst, isT_str_rol, isT_str_dct, isT_tuple_non, isT_tuple_bl, isT_tuple_int, isT_tuple_str, isT_tuple_tup, isT_tuple_lst, isT_tuple_rol, isT_tuple_dct, isT_list_non, isT_list_bl, isT_list_int, isT_list_str, isT_list_tup, isT_list_lst, isT_list_rol, isT_list_dct, isT_dict_non, isT_dict_bl, isT_dict_int, isT_dict_str, isT_dict_tup, isT_dict_lst, isT_dict_rol, isT_dict_dct, truQ_non, truQ_bl, truQ_int, truQ_tup, truQ_lst, blQ_bl, lenD_tup, lenD_lst, lenD_rol, lenD_str, tupD_tup, tupD_lst, lstD_tup, lstD_lst, lstD_rol, intD_i, intD_b, boolD_i, boolD_b, ixD_tup, ixD_lst, ixD_rol, slD_lst, slD_tup, intQ_i, appD_1, extD_1, lsQ_own, lsQ_bor, gTp_t, gsCons_c, seqQ_t, seqQ_l, seqQ_r, hideS_fz, hideS_own, hideS_bor, hideS_no, mmQ_ii, atI_0, atI_1, atI_2, List.map_cons, List.map_nil, List.replicate, List.cons_append, List.nil_append, List.append_nil, List.set, List.length_cons, List.length_nil, decide_eq_true_eq, if_true, if_false, Bool.not_true, Bool.not_false, Bool.false_eq_true, and_true, true_and, List.nodup_cons, List.not_mem_nil, not_false_eq_true, List.nodup_nil, List.mem_cons, or_false, List.getD])
    dsimp only [isPg] at hQ
    rw [if_pos c] at hQ
    all_goals exact hQ
  · have c' : isN (wsD s) = false := by simpa using c
    (try simp only [dSeq, dIfS, dRet, dRetN, dNext, dSet, dSetO, dDrop, dCall, callQ, dCallKw, dCons, dNil, dBor, dsQ, dTup, dLst, dV, dC, slot, dOp, dUn, dCmp, dCmpT, dChain, dChainT, dTru, dAnd, dOr, dNot, dAndV, dOrV, dNotV, dIf, dIsi, dNoO, dSoO, dSl, bodyQ, endsOf, outsOf, lents, putB, lentQ, dAsg, gNm, gsNil, iSeq, iRng, DL.iRng2, iEnm, dLm, dLm0, dPut, dMm, dYes, hQ, isSub, hideE, pick_0, pick_10, pick_210, rep2, kg, dFor, dLc, wipeD, restD, dPar, ixN3_0, ixN3_1, ixN3_2, ex_some, dRaise_1, dHeard_e, List.set_cons_zero, List.set_cons_succ, rdQ_fz, rdQ_own, rdQ_at, rdS_fz, rdS_own, rdS_bor, frzQ_fz, frzQ_own, frzQ_at, frS_fz, frS_own, nmQ_s, nmS_fz, nmS_own, nmS_bor, retQ_fz, retQ_own, retQ_at, rtS_fz, rtS_own, argsOf_at, argsOf_d, argsOf_n, lnS_own, lnS_bor, lnS_fz, reS_o, reS_b, setF_d, setO_own, setO_fz, setO_at, notBor_fz, notBor_own, notBor_no, isOwn_own, isOwn_bor, addD_ii, addD_ss, addD_ll, addD_tt, subD_ii, mulD_ii, mulD_li, mulD_ti, fdivD_ii, modD_ii, powD_ii, negD_i, ltD_ii, leD_ii, gtD_ii, geD_ii, isQ_n, isQ_b, nisQ_n, isN_non, isN_bl, isN_int, isN_str, isN_tup, isN_lst, isN_rol, isN_dct, isT_int_non, isT_int_bl, isT_int_int, isT_int_str, isT_int_tup, isT_int_lst, isT_int_rol, isT_int_dct, isT_bool_non, isT_bool_bl, isT_bool_int, isT_bool_str, isT_bool_tup, isT_bool_lst, isT_bool_rol, isT_bool_dct, isT_str_non, isT_str_bl, isT_str_int, isT_str_str, isT_str_tup, isT_str_lst, isT_str_rol, isT_str_dct, isT_tuple_non, isT_tuple_bl, isT_tuple_int, isT_tuple_str, isT_tuple_tup, isT_tuple_lst, isT_tuple_rol, isT_tuple_dct, isT_list_non, isT_list_bl, isT_list_int, isT_list_str, isT_list_tup, isT_list_lst, isT_list_rol, isT_list_dct, isT_dict_non, isT_dict_bl, isT_dict_int, isT_dict_str, isT_dict_tup, isT_dict_lst, isT_dict_rol, isT_dict_dct, truQ_non, truQ_bl, truQ_int, truQ_tup, truQ_lst, blQ_bl, lenD_tup, lenD_lst, lenD_rol, lenD_str, tupD_tup, tupD_lst, lstD_tup, lstD_lst, lstD_rol, intD_i, intD_b, boolD_i, boolD_b, ixD_tup, ixD_lst, ixD_rol, slD_lst, slD_tup, intQ_i, appD_1, extD_1, lsQ_own, lsQ_bor, gTp_t, gsCons_c, seqQ_t, seqQ_l, seqQ_r, hideS_fz, hideS_own, hideS_bor, hideS_no, mmQ_ii, atI_0, atI_1, atI_2, List.map_cons, List.map_nil, List.replicate, List.cons_append, List.nil_append, List.append_nil, List.set, List.length_cons, List.length_nil, decide_eq_true_eq, if_true, if_false, Bool.not_true, Bool.not_false, Bool.false_eq_true, and_true, true_and, List.nodup_cons, List.not_mem_nil, not_false_eq_true, List.nodup_nil, List.mem_cons, or_false, List.getD, c'])
    have e : isPg s d = false := by
      cases s <;> first | rfl | (dsimp only [isPg]; rw [if_neg c])
    rw [e] at hQ
    all_goals exact hQ
theorem w_made_page {s d : D} {Q : Rv → List OC → Prop} {ED : Nat → D → Prop} (h1 : isN (wsD s) = false → ED 1 (wsD s)) (h2 : ∀ ss, s = .tup ss → isN (wsD s) = true → if isN (wwD ss d) = true then Q (.fz d) [] else ED 2 (wwD ss d)) : sp_made_page [.fz s, .fz d] Q ED := by
  refine ⟨rfl, ?_⟩
  (try simp only [dSeq, dIfS, dRet, dRetN, dNext, dSet, dSetO, dDrop, dCall, callQ, dCallKw, dCons, dNil, dBor, dsQ, dTup, dLst, dV, dC, slot, dOp, dUn, dCmp, dCmpT, dChain, dChainT, dTru, dAnd, dOr, dNot, dAndV, dOrV, dNotV, dIf, dIsi, dNoO, dSoO, dSl, bodyQ, endsOf, outsOf, lents, putB, lentQ, dAsg, gNm, gsNil, iSeq, iRng, DL.iRng2, iEnm, dLm, dLm0, dPut, dMm, dYes, hQ, isSub, hideE, pick_0, pick_10, pick_210, rep2, kg, dFor, dLc, wipeD, restD, dPar, ixN3_0, ixN3_1, ixN3_2, ex_some, dRaise_1, dHeard_e, List.set_cons_zero, List.set_cons_succ, rdQ_fz, rdQ_own, rdQ_at, rdS_fz, rdS_own, rdS_bor, frzQ_fz, frzQ_own, frzQ_at, frS_fz, frS_own, nmQ_s, nmS_fz, nmS_own, nmS_bor, retQ_fz, retQ_own, retQ_at, rtS_fz, rtS_own, argsOf_at, argsOf_d, argsOf_n, lnS_own, lnS_bor, lnS_fz, reS_o, reS_b, setF_d, setO_own, setO_fz, setO_at, notBor_fz, notBor_own, notBor_no, isOwn_own, isOwn_bor, addD_ii, addD_ss, addD_ll, addD_tt, subD_ii, mulD_ii, mulD_li, mulD_ti, fdivD_ii, modD_ii, powD_ii, negD_i, ltD_ii, leD_ii, gtD_ii, geD_ii, isQ_n, isQ_b, nisQ_n, isN_non, isN_bl, isN_int, isN_str, isN_tup, isN_lst, isN_rol, isN_dct, isT_int_non, isT_int_bl, isT_int_int, isT_int_str, isT_int_tup, isT_int_lst, isT_int_rol, isT_int_dct, isT_bool_non, isT_bool_bl, isT_bool_int, isT_bool_str, isT_bool_tup, isT_bool_lst, isT_bool_rol, isT_bool_dct, isT_str_non, isT_str_bl, isT_str_int, isT_str_str, isT_str_tup, isT_str_lst, isT_str_rol, isT_str_dct, isT_tuple_non, isT_tuple_bl, isT_tuple_int, isT_tuple_str, isT_tuple_tup, isT_tuple_lst, isT_tuple_rol, isT_tuple_dct, isT_list_non, isT_list_bl, isT_list_int, isT_list_str, isT_list_tup, isT_list_lst, isT_list_rol, isT_list_dct, isT_dict_non, isT_dict_bl, isT_dict_int, isT_dict_str, isT_dict_tup, isT_dict_lst, isT_dict_rol, isT_dict_dct, truQ_non, truQ_bl, truQ_int, truQ_tup, truQ_lst, blQ_bl, lenD_tup, lenD_lst, lenD_rol, lenD_str, tupD_tup, tupD_lst, lstD_tup, lstD_lst, lstD_rol, intD_i, intD_b, boolD_i, boolD_b, ixD_tup, ixD_lst, ixD_rol, slD_lst, slD_tup, intQ_i, appD_1, extD_1, lsQ_own, lsQ_bor, gTp_t, gsCons_c, seqQ_t, seqQ_l, seqQ_r, hideS_fz, hideS_own, hideS_bor, hideS_no, mmQ_ii, atI_0, atI_1, atI_2, List.map_cons, List.map_nil, List.replicate, List.cons_append, List.nil_append, List.append_nil, List.set, List.length_cons, List.length_nil, decide_eq_true_eq, if_true, if_false, Bool.not_true, Bool.not_false, Bool.false_eq_true, and_true, true_and, List.nodup_cons, List.not_mem_nil, not_false_eq_true, List.nodup_nil, List.mem_cons, or_false, List.getD, td_made_page])
  refine ⟨(by simp [lents, slot, Sl.isOwn]), w_made_sizes ?_⟩
  (try simp only [dSeq, dIfS, dRet, dRetN, dNext, dSet, dSetO, dDrop, dCall, callQ, dCallKw, dCons, dNil, dBor, dsQ, dTup, dLst, dV, dC, slot, dOp, dUn, dCmp, dCmpT, dChain, dChainT, dTru, dAnd, dOr, dNot, dAndV, dOrV, dNotV, dIf, dIsi, dNoO, dSoO, dSl, bodyQ, endsOf, outsOf, lents, putB, lentQ, dAsg, gNm, gsNil, iSeq, iRng, DL.iRng2, iEnm, dLm, dLm0, dPut, dMm, dYes, hQ, isSub, hideE, pick_0, pick_10, pick_210, rep2, kg, dFor, dLc, wipeD, restD, dPar, ixN3_0, ixN3_1, ixN3_2, ex_some, dRaise_1, dHeard_e, List.set_cons_zero, List.set_cons_succ, rdQ_fz, rdQ_own, rdQ_at, rdS_fz, rdS_own, rdS_bor, frzQ_fz, frzQ_own, frzQ_at, frS_fz, frS_own, nmQ_s, nmS_fz, nmS_own, nmS_bor, retQ_fz, retQ_own, retQ_at, rtS_fz, rtS_own, argsOf_at, argsOf_d, argsOf_n, lnS_own, lnS_bor, lnS_fz, reS_o, reS_b, setF_d, setO_own, setO_fz, setO_at, notBor_fz, notBor_own, notBor_no, isOwn_own, isOwn_bor, addD_ii, addD_ss, addD_ll, addD_tt, subD_ii, mulD_ii, mulD_li, mulD_ti, fdivD_ii, modD_ii, powD_ii, negD_i, ltD_ii, leD_ii, gtD_ii, geD_ii, isQ_n, isQ_b, nisQ_n, isN_non, isN_bl, isN_int, isN_str, isN_tup, isN_lst, isN_rol, isN_dct, isT_int_non, isT_int_bl, isT_int_int, isT_int_str, isT_int_tup, isT_int_lst, isT_int_rol, isT_int_dct, isT_bool_non, isT_bool_bl, isT_bool_int, isT_bool_str, isT_bool_tup, isT_bool_lst, isT_bool_rol, isT_bool_dct, isT_str_non, isT_str_bl, isT_str_int, isT_str_str, isT_str_tup, isT_str_lst, isT_str_rol, isT_str_dct, isT_tuple_non, isT_tuple_bl, isT_tuple_int, isT_tuple_str, isT_tuple_tup, isT_tuple_lst, isT_tuple_rol, isT_tuple_dct, isT_list_non, isT_list_bl, isT_list_int, isT_list_str, isT_list_tup, isT_list_lst, isT_list_rol, isT_list_dct, isT_dict_non, isT_dict_bl, isT_dict_int, isT_dict_str, isT_dict_tup, isT_dict_lst, isT_dict_rol, isT_dict_dct, truQ_non, truQ_bl, truQ_int, truQ_tup, truQ_lst, blQ_bl, lenD_tup, lenD_lst, lenD_rol, lenD_str, tupD_tup, tupD_lst, lstD_tup, lstD_lst, lstD_rol, intD_i, intD_b, boolD_i, boolD_b, ixD_tup, ixD_lst, ixD_rol, slD_lst, slD_tup, intQ_i, appD_1, extD_1, lsQ_own, lsQ_bor, gTp_t, gsCons_c, seqQ_t, seqQ_l, seqQ_r, hideS_fz, hideS_own, hideS_bor, hideS_no, mmQ_ii, atI_0, atI_1, atI_2, List.map_cons, List.map_nil, List.replicate, List.cons_append, List.nil_append, List.append_nil, List.set, List.length_cons, List.length_nil, decide_eq_true_eq, if_true, if_false, Bool.not_true, Bool.not_false, Bool.false_eq_true, and_true, true_and, List.nodup_cons, List.not_mem_nil, not_false_eq_true, List.nodup_nil, List.mem_cons, or_false, List.getD])
  by_cases c : isN (wsD s) = true
  · have hs : ∃ ss, s = .tup ss := by
      cases s <;> first | exact ⟨_, rfl⟩ | cases c
    obtain ⟨ss, rfl⟩ := hs
    have q := h2 ss rfl c
    (try simp only [dSeq, dIfS, dRet, dRetN, dNext, dSet, dSetO, dDrop, dCall, callQ, dCallKw, dCons, dNil, dBor, dsQ, dTup, dLst, dV, dC, slot, dOp, dUn, dCmp, dCmpT, dChain, dChainT, dTru, dAnd, dOr, dNot, dAndV, dOrV, dNotV, dIf, dIsi, dNoO, dSoO, dSl, bodyQ, endsOf, outsOf, lents, putB, lentQ, dAsg, gNm, gsNil, iSeq, iRng, DL.iRng2, iEnm, dLm, dLm0, dPut, dMm, dYes, hQ, isSub, hideE, pick_0, pick_10, pick_210, rep2, kg, dFor, dLc, wipeD, restD, dPar, ixN3_0, ixN3_1, ixN3_2, ex_some, dRaise_1, dHeard_e, List.set_cons_zero, List.set_cons_succ, rdQ_fz, rdQ_own, rdQ_at, rdS_fz, rdS_own, rdS_bor, frzQ_fz, frzQ_own, frzQ_at, frS_fz, frS_own, nmQ_s, nmS_fz, nmS_own, nmS_bor, retQ_fz, retQ_own, retQ_at, rtS_fz, rtS_own, argsOf_at, argsOf_d, argsOf_n, lnS_own, lnS_bor, lnS_fz, reS_o, reS_b, setF_d, setO_own, setO_fz, setO_at, notBor_fz, notBor_own, notBor_no, isOwn_own, isOwn_bor, addD_ii, addD_ss, addD_ll, addD_tt, subD_ii, mulD_ii, mulD_li, mulD_ti, fdivD_ii, modD_ii, powD_ii, negD_i, ltD_ii, leD_ii, gtD_ii, geD_ii, isQ_n, isQ_b, nisQ_n, isN_non, isN_bl, isN_int, isN_str, isN_tup, isN_lst, isN_rol, isN_dct, isT_int_non, isT_int_bl, isT_int_int, isT_int_str, isT_int_tup, isT_int_lst, isT_int_rol, isT_int_dct, isT_bool_non, isT_bool_bl, isT_bool_int, isT_bool_str, isT_bool_tup, isT_bool_lst, isT_bool_rol, isT_bool_dct, isT_str_non, isT_str_bl, isT_str_int, isT_str_str, isT_str_tup, isT_str_lst, isT_str_rol, isT_str_dct, isT_tuple_non, isT_tuple_bl, isT_tuple_int, isT_tuple_str, isT_tuple_tup, isT_tuple_lst, isT_tuple_rol, isT_tuple_dct, isT_list_non, isT_list_bl, isT_list_int, isT_list_str, isT_list_tup, isT_list_lst, isT_list_rol, isT_list_dct, isT_dict_non, isT_dict_bl, isT_dict_int, isT_dict_str, isT_dict_tup, isT_dict_lst, isT_dict_rol, isT_dict_dct, truQ_non, truQ_bl, truQ_int, truQ_tup, truQ_lst, blQ_bl, lenD_tup, lenD_lst, lenD_rol, lenD_str, tupD_tup, tupD_lst, lstD_tup, lstD_lst, lstD_rol, intD_i, intD_b, boolD_i, boolD_b, ixD_tup, ixD_lst, ixD_rol, slD_lst, slD_tup, intQ_i, appD_1, extD_1, lsQ_own, lsQ_bor, gTp_t, gsCons_c, seqQ_t, seqQ_l, seqQ_r, hideS_fz, hideS_own, hideS_bor, hideS_no, mmQ_ii, atI_0, atI_1, atI_2, List.map_cons, List.map_nil, List.replicate, List.cons_append, List.nil_append, List.append_nil, List.set, List.length_cons, List.length_nil, decide_eq_true_eq, if_true, if_false, Bool.not_true, Bool.not_false, Bool.false_eq_true, and_true, true_and, List.nodup_cons, List.not_mem_nil, not_false_eq_true, List.nodup_nil, List.mem_cons, or_false, List.getD, c])
    refine ⟨(by simp [lents, slot, Sl.isOwn]), w_wrong_worth (ints_of c) ?_⟩
    (try simp only [dSeq, dIfS, dRet, dRetN, dNext, dSet, dSetO, dDrop, dCall, callQ, dCallKw, dCons, dNil, dBor, dsQ, dTup, dLst, dV, dC, slot, dOp, dUn, dCmp, dCmpT, dChain, dChainT, dTru, dAnd, dOr, dNot, dAndV, dOrV, dNotV, dIf, dIsi, dNoO, dSoO, dSl, bodyQ, endsOf, outsOf, lents, putB, lentQ, dAsg, gNm, gsNil, iSeq, iRng, DL.iRng2, iEnm, dLm, dLm0, dPut, dMm, dYes, hQ, isSub, hideE, pick_0, pick_10, pick_210, rep2, kg, dFor, dLc, wipeD, restD, dPar, ixN3_0, ixN3_1, ixN3_2, ex_some, dRaise_1, dHeard_e, List.set_cons_zero, List.set_cons_succ, rdQ_fz, rdQ_own, rdQ_at, rdS_fz, rdS_own, rdS_bor, frzQ_fz, frzQ_own, frzQ_at, frS_fz, frS_own, nmQ_s, nmS_fz, nmS_own, nmS_bor, retQ_fz, retQ_own, retQ_at, rtS_fz, rtS_own, argsOf_at, argsOf_d, argsOf_n, lnS_own, lnS_bor, lnS_fz, reS_o, reS_b, setF_d, setO_own, setO_fz, setO_at, notBor_fz, notBor_own, notBor_no, isOwn_own, isOwn_bor, addD_ii, addD_ss, addD_ll, addD_tt, subD_ii, mulD_ii, mulD_li, mulD_ti, fdivD_ii, modD_ii, powD_ii, negD_i, ltD_ii, leD_ii, gtD_ii, geD_ii, isQ_n, isQ_b, nisQ_n, isN_non, isN_bl, isN_int, isN_str, isN_tup, isN_lst, isN_rol, isN_dct, isT_int_non, isT_int_bl, isT_int_int, isT_int_str, isT_int_tup, isT_int_lst, isT_int_rol, isT_int_dct, isT_bool_non, isT_bool_bl, isT_bool_int, isT_bool_str, isT_bool_tup, isT_bool_lst, isT_bool_rol, isT_bool_dct, isT_str_non, isT_str_bl, isT_str_int, isT_str_str, isT_str_tup, isT_str_lst, isT_str_rol, isT_str_dct, isT_tuple_non, isT_tuple_bl, isT_tuple_int, isT_tuple_str, isT_tuple_tup, isT_tuple_lst, isT_tuple_rol, isT_tuple_dct, isT_list_non, isT_list_bl, isT_list_int, isT_list_str, isT_list_tup, isT_list_lst, isT_list_rol, isT_list_dct, isT_dict_non, isT_dict_bl, isT_dict_int, isT_dict_str, isT_dict_tup, isT_dict_lst, isT_dict_rol, isT_dict_dct, truQ_non, truQ_bl, truQ_int, truQ_tup, truQ_lst, blQ_bl, lenD_tup, lenD_lst, lenD_rol, lenD_str, tupD_tup, tupD_lst, lstD_tup, lstD_lst, lstD_rol, intD_i, intD_b, boolD_i, boolD_b, ixD_tup, ixD_lst, ixD_rol, slD_lst, slD_tup, intQ_i, appD_1, extD_1, lsQ_own, lsQ_bor, gTp_t, gsCons_c, seqQ_t, seqQ_l, seqQ_r, hideS_fz, hideS_own, hideS_bor, hideS_no, mmQ_ii, atI_0, atI_1, atI_2, List.map_cons, List.map_nil, List.replicate, List.cons_append, List.nil_append, List.append_nil, List.set, List.length_cons, List.length_nil, decide_eq_true_eq, if_true, if_false, Bool.not_true, Bool.not_false, Bool.false_eq_true, and_true, true_and, List.nodup_cons, List.not_mem_nil, not_false_eq_true, List.nodup_nil, List.mem_cons, or_false, List.getD])
    by_cases c2 : isN (wwD ss d) = true
    · rw [if_pos c2] at q
      (try simp only [dSeq, dIfS, dRet, dRetN, dNext, dSet, dSetO, dDrop, dCall, callQ, dCallKw, dCons, dNil, dBor, dsQ, dTup, dLst, dV, dC, slot, dOp, dUn, dCmp, dCmpT, dChain, dChainT, dTru, dAnd, dOr, dNot, dAndV, dOrV, dNotV, dIf, dIsi, dNoO, dSoO, dSl, bodyQ, endsOf, outsOf, lents, putB, lentQ, dAsg, gNm, gsNil, iSeq, iRng, DL.iRng2, iEnm, dLm, dLm0, dPut, dMm, dYes, hQ, isSub, hideE, pick_0, pick_10, pick_210, rep2, kg, dFor, dLc, wipeD, restD, dPar, ixN3_0, ixN3_1, ixN3_2, ex_some, dRaise_1, dHeard_e, List.set_cons_zero, List.set_cons_succ, rdQ_fz, rdQ_own, rdQ_at, rdS_fz, rdS_own, rdS_bor, frzQ_fz, frzQ_own, frzQ_at, frS_fz, frS_own, nmQ_s, nmS_fz, nmS_own, nmS_bor, retQ_fz, retQ_own, retQ_at, rtS_fz, rtS_own, argsOf_at, argsOf_d, argsOf_n, lnS_own, lnS_bor, lnS_fz, reS_o, reS_b, setF_d, setO_own, setO_fz, setO_at, notBor_fz, notBor_own, notBor_no, isOwn_own, isOwn_bor, addD_ii, addD_ss, addD_ll, addD_tt, subD_ii, mulD_ii, mulD_li, mulD_ti, fdivD_ii, modD_ii, powD_ii, negD_i, ltD_ii, leD_ii, gtD_ii, geD_ii, isQ_n, isQ_b, nisQ_n, isN_non, isN_bl, isN_int, isN_str, isN_tup, isN_lst, isN_rol, isN_dct, isT_int_non, isT_int_bl, isT_int_int, isT_int_str, isT_int_tup, isT_int_lst, isT_int_rol, isT_int_dct, isT_bool_non, isT_bool_bl, isT_bool_int, isT_bool_str, isT_bool_tup, isT_bool_lst, isT_bool_rol, isT_bool_dct, isT_str_non, isT_str_bl, isT_str_int, isT_str_str, isT_str_tup, isT_str_lst, isT_str_rol, isT_str_dct, isT_tuple_non, isT_tuple_bl, isT_tuple_int, isT_tuple_str, isT_tuple_tup, isT_tuple_lst, isT_tuple_rol, isT_tuple_dct, isT_list_non, isT_list_bl, isT_list_int, isT_list_str, isT_list_tup, isT_list_lst, isT_list_rol, isT_list_dct, isT_dict_non, isT_dict_bl, isT_dict_int, isT_dict_str, isT_dict_tup, isT_dict_lst, isT_dict_rol, isT_dict_dct, truQ_non, truQ_bl, truQ_int, truQ_tup, truQ_lst, blQ_bl, lenD_tup, lenD_lst, lenD_rol, lenD_str, tupD_tup, tupD_lst, lstD_tup, lstD_lst, lstD_rol, intD_i, intD_b, boolD_i, boolD_b, ixD_tup, ixD_lst, ixD_rol, slD_lst, slD_tup, intQ_i, appD_1, extD_1, lsQ_own, lsQ_bor, gTp_t, gsCons_c, seqQ_t, seqQ_l, seqQ_r, hideS_fz, hideS_own, hideS_bor, hideS_no, mmQ_ii, atI_0, atI_1, atI_2, List.map_cons, List.map_nil, List.replicate, List.cons_append, List.nil_append, List.append_nil, List.set, List.length_cons, List.length_nil, decide_eq_true_eq, if_true, if_false, Bool.not_true, Bool.not_false, Bool.false_eq_true, and_true, true_and, List.nodup_cons, List.not_mem_nil, not_false_eq_true, List.nodup_nil, List.mem_cons, or_false, List.getD, c2])
      all_goals exact q
    · rw [if_neg c2] at q
      have c' : isN (wwD ss d) = false := by simpa using c2
      (try simp only [dSeq, dIfS, dRet, dRetN, dNext, dSet, dSetO, dDrop, dCall, callQ, dCallKw, dCons, dNil, dBor, dsQ, dTup, dLst, dV, dC, slot, dOp, dUn, dCmp, dCmpT, dChain, dChainT, dTru, dAnd, dOr, dNot, dAndV, dOrV, dNotV, dIf, dIsi, dNoO, dSoO, dSl, bodyQ, endsOf, outsOf, lents, putB, lentQ, dAsg, gNm, gsNil, iSeq, iRng, DL.iRng2, iEnm, dLm, dLm0, dPut, dMm, dYes, hQ, isSub, hideE, pick_0, pick_10, pick_210, rep2, kg, dFor, dLc, wipeD, restD, dPar, ixN3_0, ixN3_1, ixN3_2, ex_some, dRaise_1, dHeard_e, List.set_cons_zero, List.set_cons_succ, rdQ_fz, rdQ_own, rdQ_at, rdS_fz, rdS_own, rdS_bor, frzQ_fz, frzQ_own, frzQ_at, frS_fz, frS_own, nmQ_s, nmS_fz, nmS_own, nmS_bor, retQ_fz, retQ_own, retQ_at, rtS_fz, rtS_own, argsOf_at, argsOf_d, argsOf_n, lnS_own, lnS_bor, lnS_fz, reS_o, reS_b, setF_d, setO_own, setO_fz, setO_at, notBor_fz, notBor_own, notBor_no, isOwn_own, isOwn_bor, addD_ii, addD_ss, addD_ll, addD_tt, subD_ii, mulD_ii, mulD_li, mulD_ti, fdivD_ii, modD_ii, powD_ii, negD_i, ltD_ii, leD_ii, gtD_ii, geD_ii, isQ_n, isQ_b, nisQ_n, isN_non, isN_bl, isN_int, isN_str, isN_tup, isN_lst, isN_rol, isN_dct, isT_int_non, isT_int_bl, isT_int_int, isT_int_str, isT_int_tup, isT_int_lst, isT_int_rol, isT_int_dct, isT_bool_non, isT_bool_bl, isT_bool_int, isT_bool_str, isT_bool_tup, isT_bool_lst, isT_bool_rol, isT_bool_dct, isT_str_non, isT_str_bl, isT_str_int, isT_str_str, isT_str_tup, isT_str_lst, isT_str_rol, isT_str_dct, isT_tuple_non, isT_tuple_bl, isT_tuple_int, isT_tuple_str, isT_tuple_tup, isT_tuple_lst, isT_tuple_rol, isT_tuple_dct, isT_list_non, isT_list_bl, isT_list_int, isT_list_str, isT_list_tup, isT_list_lst, isT_list_rol, isT_list_dct, isT_dict_non, isT_dict_bl, isT_dict_int, isT_dict_str, isT_dict_tup, isT_dict_lst, isT_dict_rol, isT_dict_dct, truQ_non, truQ_bl, truQ_int, truQ_tup, truQ_lst, blQ_bl, lenD_tup, lenD_lst, lenD_rol, lenD_str, tupD_tup, tupD_lst, lstD_tup, lstD_lst, lstD_rol, intD_i, intD_b, boolD_i, boolD_b, ixD_tup, ixD_lst, ixD_rol, slD_lst, slD_tup, intQ_i, appD_1, extD_1, lsQ_own, lsQ_bor, gTp_t, gsCons_c, seqQ_t, seqQ_l, seqQ_r, hideS_fz, hideS_own, hideS_bor, hideS_no, mmQ_ii, atI_0, atI_1, atI_2, List.map_cons, List.map_nil, List.replicate, List.cons_append, List.nil_append, List.append_nil, List.set, List.length_cons, List.length_nil, decide_eq_true_eq, if_true, if_false, Bool.not_true, Bool.not_false, Bool.false_eq_true, and_true, true_and, List.nodup_cons, List.not_mem_nil, not_false_eq_true, List.nodup_nil, List.mem_cons, or_false, List.getD, c'])
      all_goals exact q
  · have c' : isN (wsD s) = false := by simpa using c
    (try simp only [dSeq, dIfS, dRet, dRetN, dNext, dSet, dSetO, dDrop, dCall, callQ, dCallKw, dCons, dNil, dBor, dsQ, dTup, dLst, dV, dC, slot, dOp, dUn, dCmp, dCmpT, dChain, dChainT, dTru, dAnd, dOr, dNot, dAndV, dOrV, dNotV, dIf, dIsi, dNoO, dSoO, dSl, bodyQ, endsOf, outsOf, lents, putB, lentQ, dAsg, gNm, gsNil, iSeq, iRng, DL.iRng2, iEnm, dLm, dLm0, dPut, dMm, dYes, hQ, isSub, hideE, pick_0, pick_10, pick_210, rep2, kg, dFor, dLc, wipeD, restD, dPar, ixN3_0, ixN3_1, ixN3_2, ex_some, dRaise_1, dHeard_e, List.set_cons_zero, List.set_cons_succ, rdQ_fz, rdQ_own, rdQ_at, rdS_fz, rdS_own, rdS_bor, frzQ_fz, frzQ_own, frzQ_at, frS_fz, frS_own, nmQ_s, nmS_fz, nmS_own, nmS_bor, retQ_fz, retQ_own, retQ_at, rtS_fz, rtS_own, argsOf_at, argsOf_d, argsOf_n, lnS_own, lnS_bor, lnS_fz, reS_o, reS_b, setF_d, setO_own, setO_fz, setO_at, notBor_fz, notBor_own, notBor_no, isOwn_own, isOwn_bor, addD_ii, addD_ss, addD_ll, addD_tt, subD_ii, mulD_ii, mulD_li, mulD_ti, fdivD_ii, modD_ii, powD_ii, negD_i, ltD_ii, leD_ii, gtD_ii, geD_ii, isQ_n, isQ_b, nisQ_n, isN_non, isN_bl, isN_int, isN_str, isN_tup, isN_lst, isN_rol, isN_dct, isT_int_non, isT_int_bl, isT_int_int, isT_int_str, isT_int_tup, isT_int_lst, isT_int_rol, isT_int_dct, isT_bool_non, isT_bool_bl, isT_bool_int, isT_bool_str, isT_bool_tup, isT_bool_lst, isT_bool_rol, isT_bool_dct, isT_str_non, isT_str_bl, isT_str_int, isT_str_str, isT_str_tup, isT_str_lst, isT_str_rol, isT_str_dct, isT_tuple_non, isT_tuple_bl, isT_tuple_int, isT_tuple_str, isT_tuple_tup, isT_tuple_lst, isT_tuple_rol, isT_tuple_dct, isT_list_non, isT_list_bl, isT_list_int, isT_list_str, isT_list_tup, isT_list_lst, isT_list_rol, isT_list_dct, isT_dict_non, isT_dict_bl, isT_dict_int, isT_dict_str, isT_dict_tup, isT_dict_lst, isT_dict_rol, isT_dict_dct, truQ_non, truQ_bl, truQ_int, truQ_tup, truQ_lst, blQ_bl, lenD_tup, lenD_lst, lenD_rol, lenD_str, tupD_tup, tupD_lst, lstD_tup, lstD_lst, lstD_rol, intD_i, intD_b, boolD_i, boolD_b, ixD_tup, ixD_lst, ixD_rol, slD_lst, slD_tup, intQ_i, appD_1, extD_1, lsQ_own, lsQ_bor, gTp_t, gsCons_c, seqQ_t, seqQ_l, seqQ_r, hideS_fz, hideS_own, hideS_bor, hideS_no, mmQ_ii, atI_0, atI_1, atI_2, List.map_cons, List.map_nil, List.replicate, List.cons_append, List.nil_append, List.append_nil, List.set, List.length_cons, List.length_nil, decide_eq_true_eq, if_true, if_false, Bool.not_true, Bool.not_false, Bool.false_eq_true, and_true, true_and, List.nodup_cons, List.not_mem_nil, not_false_eq_true, List.nodup_nil, List.mem_cons, or_false, List.getD, c'])
    all_goals exact h1 c'
def dueS (d : D) : D := if isN (wsD d) = true then .non else .tup [.str "BadSizes", wsD d]
theorem p6_whole (i : Nat) (d : D) : ((match d with | .int _ => true | _ => false) = false ∧ p6 i d = false) ∨ ∃ x, d = .int x := by
  cases d <;> first | exact .inl ⟨rfl, rfl⟩ | exact .inr ⟨_, rfl⟩
theorem w_zc_sizes_due {d : D} {Q : Rv → List OC → Prop} {ED : Nat → D → Prop} (hd : ∀ ds, d = .tup ds → ds.length ≤ sizeLine) (hQ : Q (.fz (dueS d)) []) : sp_zc_sizes_due [.fz d] Q ED := by
  refine ⟨rfl, ?_⟩
  cases d
  case tup ds =>
    (try simp only [dSeq, dIfS, dRet, dRetN, dNext, dSet, dSetO, dDrop, dCall, callQ, dCallKw, dCons, dNil, dBor, dsQ, dTup, dLst, dV, dC, slot, dOp, dUn, dCmp, dCmpT, dChain, dChainT, dTru, dAnd, dOr, dNot, dAndV, dOrV, dNotV, dIf, dIsi, dNoO, dSoO, dSl, bodyQ, endsOf, outsOf, lents, putB, lentQ, dAsg, gNm, gsNil, iSeq, iRng, DL.iRng2, iEnm, dLm, dLm0, dPut, dMm, dYes, hQ, isSub, hideE, pick_0, pick_10, pick_210, rep2, kg, dFor, dLc, wipeD, restD, dPar, ixN3_0, ixN3_1, ixN3_2, ex_some, dRaise_1, dHeard_e, List.set_cons_zero, List.set_cons_succ, rdQ_fz, rdQ_own, rdQ_at, rdS_fz, rdS_own, rdS_bor, frzQ_fz, frzQ_own, frzQ_at, frS_fz, frS_own, nmQ_s, nmS_fz, nmS_own, nmS_bor, retQ_fz, retQ_own, retQ_at, rtS_fz, rtS_own, argsOf_at, argsOf_d, argsOf_n, lnS_own, lnS_bor, lnS_fz, reS_o, reS_b, setF_d, setO_own, setO_fz, setO_at, notBor_fz, notBor_own, notBor_no, isOwn_own, isOwn_bor, addD_ii, addD_ss, addD_ll, addD_tt, subD_ii, mulD_ii, mulD_li, mulD_ti, fdivD_ii, modD_ii, powD_ii, negD_i, ltD_ii, leD_ii, gtD_ii, geD_ii, isQ_n, isQ_b, nisQ_n, isN_non, isN_bl, isN_int, isN_str, isN_tup, isN_lst, isN_rol, isN_dct, isT_int_non, isT_int_bl, isT_int_int, isT_int_str, isT_int_tup, isT_int_lst, isT_int_rol, isT_int_dct, isT_bool_non, isT_bool_bl, isT_bool_int, isT_bool_str, isT_bool_tup, isT_bool_lst, isT_bool_rol, isT_bool_dct, isT_str_non, isT_str_bl, isT_str_int, isT_str_str, isT_str_tup, isT_str_lst, isT_str_rol, isT_str_dct, isT_tuple_non, isT_tuple_bl, isT_tuple_int, isT_tuple_str, isT_tuple_tup, isT_tuple_lst, isT_tuple_rol, isT_tuple_dct, isT_list_non, isT_list_bl, isT_list_int, isT_list_str, isT_list_tup, isT_list_lst, isT_list_rol, isT_list_dct, isT_dict_non, isT_dict_bl, isT_dict_int, isT_dict_str, isT_dict_tup, isT_dict_lst, isT_dict_rol, isT_dict_dct, truQ_non, truQ_bl, truQ_int, truQ_tup, truQ_lst, blQ_bl, lenD_tup, lenD_lst, lenD_rol, lenD_str, tupD_tup, tupD_lst, lstD_tup, lstD_lst, lstD_rol, intD_i, intD_b, boolD_i, boolD_b, ixD_tup, ixD_lst, ixD_rol, slD_lst, slD_tup, intQ_i, appD_1, extD_1, lsQ_own, lsQ_bor, gTp_t, gsCons_c, seqQ_t, seqQ_l, seqQ_r, hideS_fz, hideS_own, hideS_bor, hideS_no, mmQ_ii, atI_0, atI_1, atI_2, List.map_cons, List.map_nil, List.replicate, List.cons_append, List.nil_append, List.append_nil, List.set, List.length_cons, List.length_nil, decide_eq_true_eq, if_true, if_false, Bool.not_true, Bool.not_false, Bool.false_eq_true, and_true, true_and, List.nodup_cons, List.not_mem_nil, not_false_eq_true, List.nodup_nil, List.mem_cons, or_false, List.getD, td_zc_sizes_due])
    by_cases h1 : 1 ≤ ds.length ∧ ds.length ≤ 24
    · have e1 : (1 : Int) ≤ (ds.length : Nat) := by omega
      have e2 : ((ds.length : Nat) : Int) ≤ 24 := by omega
      (try simp only [dSeq, dIfS, dRet, dRetN, dNext, dSet, dSetO, dDrop, dCall, callQ, dCallKw, dCons, dNil, dBor, dsQ, dTup, dLst, dV, dC, slot, dOp, dUn, dCmp, dCmpT, dChain, dChainT, dTru, dAnd, dOr, dNot, dAndV, dOrV, dNotV, dIf, dIsi, dNoO, dSoO, dSl, bodyQ, endsOf, outsOf, lents, putB, lentQ, dAsg, gNm, gsNil, iSeq, iRng, DL.iRng2, iEnm, dLm, dLm0, dPut, dMm, dYes, hQ, isSub, hideE, pick_0, pick_10, pick_210, rep2, kg, dFor, dLc, wipeD, restD, dPar, ixN3_0, ixN3_1, ixN3_2, ex_some, dRaise_1, dHeard_e, List.set_cons_zero, List.set_cons_succ, rdQ_fz, rdQ_own, rdQ_at, rdS_fz, rdS_own, rdS_bor, frzQ_fz, frzQ_own, frzQ_at, frS_fz, frS_own, nmQ_s, nmS_fz, nmS_own, nmS_bor, retQ_fz, retQ_own, retQ_at, rtS_fz, rtS_own, argsOf_at, argsOf_d, argsOf_n, lnS_own, lnS_bor, lnS_fz, reS_o, reS_b, setF_d, setO_own, setO_fz, setO_at, notBor_fz, notBor_own, notBor_no, isOwn_own, isOwn_bor, addD_ii, addD_ss, addD_ll, addD_tt, subD_ii, mulD_ii, mulD_li, mulD_ti, fdivD_ii, modD_ii, powD_ii, negD_i, ltD_ii, leD_ii, gtD_ii, geD_ii, isQ_n, isQ_b, nisQ_n, isN_non, isN_bl, isN_int, isN_str, isN_tup, isN_lst, isN_rol, isN_dct, isT_int_non, isT_int_bl, isT_int_int, isT_int_str, isT_int_tup, isT_int_lst, isT_int_rol, isT_int_dct, isT_bool_non, isT_bool_bl, isT_bool_int, isT_bool_str, isT_bool_tup, isT_bool_lst, isT_bool_rol, isT_bool_dct, isT_str_non, isT_str_bl, isT_str_int, isT_str_str, isT_str_tup, isT_str_lst, isT_str_rol, isT_str_dct, isT_tuple_non, isT_tuple_bl, isT_tuple_int, isT_tuple_str, isT_tuple_tup, isT_tuple_lst, isT_tuple_rol, isT_tuple_dct, isT_list_non, isT_list_bl, isT_list_int, isT_list_str, isT_list_tup, isT_list_lst, isT_list_rol, isT_list_dct, isT_dict_non, isT_dict_bl, isT_dict_int, isT_dict_str, isT_dict_tup, isT_dict_lst, isT_dict_rol, isT_dict_dct, truQ_non, truQ_bl, truQ_int, truQ_tup, truQ_lst, blQ_bl, lenD_tup, lenD_lst, lenD_rol, lenD_str, tupD_tup, tupD_lst, lstD_tup, lstD_lst, lstD_rol, intD_i, intD_b, boolD_i, boolD_b, ixD_tup, ixD_lst, ixD_rol, slD_lst, slD_tup, intQ_i, appD_1, extD_1, lsQ_own, lsQ_bor, gTp_t, gsCons_c, seqQ_t, seqQ_l, seqQ_r, hideS_fz, hideS_own, hideS_bor, hideS_no, mmQ_ii, atI_0, atI_1, atI_2, List.map_cons, List.map_nil, List.replicate, List.cons_append, List.nil_append, List.append_nil, List.set, List.length_cons, List.length_nil, decide_eq_true_eq, if_true, if_false, Bool.not_true, Bool.not_false, Bool.false_eq_true, and_true, true_and, List.nodup_cons, List.not_mem_nil, not_false_eq_true, List.nodup_nil, List.mem_cons, or_false, List.getD, e1, e2, decide_true])
      have hw : wsD (.tup ds) = firstN p6 0 ds := by dsimp only [wsD]; rw [if_pos h1]
      refine ⟨lenZ (hd _ rfl), ?_⟩
      rw [show ((ds.length : Nat) : Int).toNat = ds.length by omega, rngD_0]
      refine ⟨by simp [wipeOk, slot, notBor], ?_⟩
      refine lcL_ind (Inv := fun rest acc η => ∃ i ys, rest = rngs i ys.length ∧ ds.drop i = ys ∧ acc ++ bads p6 i ys = bads p6 0 ds ∧ acc.length ≤ i ∧ η = [.fz (.tup ds), .no, .no]) ?_ ?_ _ _ _ ⟨0, ds, rfl, rfl, rfl, Nat.le_refl _, by (try simp only [dSeq, dIfS, dRet, dRetN, dNext, dSet, dSetO, dDrop, dCall, callQ, dCallKw, dCons, dNil, dBor, dsQ, dTup, dLst, dV, dC, slot, dOp, dUn, dCmp, dCmpT, dChain, dChainT, dTru, dAnd, dOr, dNot, dAndV, dOrV, dNotV, dIf, dIsi, dNoO, dSoO, dSl, bodyQ, endsOf, outsOf, lents, putB, lentQ, dAsg, gNm, gsNil, iSeq, iRng, DL.iRng2, iEnm, dLm, dLm0, dPut, dMm, dYes, hQ, isSub, hideE, pick_0, pick_10, pick_210, rep2, kg, dFor, dLc, wipeD, restD, dPar, ixN3_0, ixN3_1, ixN3_2, ex_some, dRaise_1, dHeard_e, List.set_cons_zero, List.set_cons_succ, rdQ_fz, rdQ_own, rdQ_at, rdS_fz, rdS_own, rdS_bor, frzQ_fz, frzQ_own, frzQ_at, frS_fz, frS_own, nmQ_s, nmS_fz, nmS_own, nmS_bor, retQ_fz, retQ_own, retQ_at, rtS_fz, rtS_own, argsOf_at, argsOf_d, argsOf_n, lnS_own, lnS_bor, lnS_fz, reS_o, reS_b, setF_d, setO_own, setO_fz, setO_at, notBor_fz, notBor_own, notBor_no, isOwn_own, isOwn_bor, addD_ii, addD_ss, addD_ll, addD_tt, subD_ii, mulD_ii, mulD_li, mulD_ti, fdivD_ii, modD_ii, powD_ii, negD_i, ltD_ii, leD_ii, gtD_ii, geD_ii, isQ_n, isQ_b, nisQ_n, isN_non, isN_bl, isN_int, isN_str, isN_tup, isN_lst, isN_rol, isN_dct, isT_int_non, isT_int_bl, isT_int_int, isT_int_str, isT_int_tup, isT_int_lst, isT_int_rol, isT_int_dct, isT_bool_non, isT_bool_bl, isT_bool_int, isT_bool_str, isT_bool_tup, isT_bool_lst, isT_bool_rol, isT_bool_dct, isT_str_non, isT_str_bl, isT_str_int, isT_str_str, isT_str_tup, isT_str_lst, isT_str_rol, isT_str_dct, isT_tuple_non, isT_tuple_bl, isT_tuple_int, isT_tuple_str, isT_tuple_tup, isT_tuple_lst, isT_tuple_rol, isT_tuple_dct, isT_list_non, isT_list_bl, isT_list_int, isT_list_str, isT_list_tup, isT_list_lst, isT_list_rol, isT_list_dct, isT_dict_non, isT_dict_bl, isT_dict_int, isT_dict_str, isT_dict_tup, isT_dict_lst, isT_dict_rol, isT_dict_dct, truQ_non, truQ_bl, truQ_int, truQ_tup, truQ_lst, blQ_bl, lenD_tup, lenD_lst, lenD_rol, lenD_str, tupD_tup, tupD_lst, lstD_tup, lstD_lst, lstD_rol, intD_i, intD_b, boolD_i, boolD_b, ixD_tup, ixD_lst, ixD_rol, slD_lst, slD_tup, intQ_i, appD_1, extD_1, lsQ_own, lsQ_bor, gTp_t, gsCons_c, seqQ_t, seqQ_l, seqQ_r, hideS_fz, hideS_own, hideS_bor, hideS_no, mmQ_ii, atI_0, atI_1, atI_2, List.map_cons, List.map_nil, List.replicate, List.cons_append, List.nil_append, List.append_nil, List.set, List.length_cons, List.length_nil, decide_eq_true_eq, if_true, if_false, Bool.not_true, Bool.not_false, Bool.false_eq_true, and_true, true_and, List.nodup_cons, List.not_mem_nil, not_false_eq_true, List.nodup_nil, List.mem_cons, or_false, List.getD])⟩
      · rintro acc η ⟨i, ys, r1, r2, r3, r4, rfl⟩
        cases ys with
        | cons y ys => cases r1
        | nil =>
          have r3 : acc ++ [] = bads p6 0 ds := r3
          rw [List.append_nil] at r3
          subst r3
          (try simp only [dSeq, dIfS, dRet, dRetN, dNext, dSet, dSetO, dDrop, dCall, callQ, dCallKw, dCons, dNil, dBor, dsQ, dTup, dLst, dV, dC, slot, dOp, dUn, dCmp, dCmpT, dChain, dChainT, dTru, dAnd, dOr, dNot, dAndV, dOrV, dNotV, dIf, dIsi, dNoO, dSoO, dSl, bodyQ, endsOf, outsOf, lents, putB, lentQ, dAsg, gNm, gsNil, iSeq, iRng, DL.iRng2, iEnm, dLm, dLm0, dPut, dMm, dYes, hQ, isSub, hideE, pick_0, pick_10, pick_210, rep2, kg, dFor, dLc, wipeD, restD, dPar, ixN3_0, ixN3_1, ixN3_2, ex_some, dRaise_1, dHeard_e, List.set_cons_zero, List.set_cons_succ, rdQ_fz, rdQ_own, rdQ_at, rdS_fz, rdS_own, rdS_bor, frzQ_fz, frzQ_own, frzQ_at, frS_fz, frS_own, nmQ_s, nmS_fz, nmS_own, nmS_bor, retQ_fz, retQ_own, retQ_at, rtS_fz, rtS_own, argsOf_at, argsOf_d, argsOf_n, lnS_own, lnS_bor, lnS_fz, reS_o, reS_b, setF_d, setO_own, setO_fz, setO_at, notBor_fz, notBor_own, notBor_no, isOwn_own, isOwn_bor, addD_ii, addD_ss, addD_ll, addD_tt, subD_ii, mulD_ii, mulD_li, mulD_ti, fdivD_ii, modD_ii, powD_ii, negD_i, ltD_ii, leD_ii, gtD_ii, geD_ii, isQ_n, isQ_b, nisQ_n, isN_non, isN_bl, isN_int, isN_str, isN_tup, isN_lst, isN_rol, isN_dct, isT_int_non, isT_int_bl, isT_int_int, isT_int_str, isT_int_tup, isT_int_lst, isT_int_rol, isT_int_dct, isT_bool_non, isT_bool_bl, isT_bool_int, isT_bool_str, isT_bool_tup, isT_bool_lst, isT_bool_rol, isT_bool_dct, isT_str_non, isT_str_bl, isT_str_int, isT_str_str, isT_str_tup, isT_str_lst, isT_str_rol, isT_str_dct, isT_tuple_non, isT_tuple_bl, isT_tuple_int, isT_tuple_str, isT_tuple_tup, isT_tuple_lst, isT_tuple_rol, isT_tuple_dct, isT_list_non, isT_list_bl, isT_list_int, isT_list_str, isT_list_tup, isT_list_lst, isT_list_rol, isT_list_dct, isT_dict_non, isT_dict_bl, isT_dict_int, isT_dict_str, isT_dict_tup, isT_dict_lst, isT_dict_rol, isT_dict_dct, truQ_non, truQ_bl, truQ_int, truQ_tup, truQ_lst, blQ_bl, lenD_tup, lenD_lst, lenD_rol, lenD_str, tupD_tup, tupD_lst, lstD_tup, lstD_lst, lstD_rol, intD_i, intD_b, boolD_i, boolD_b, ixD_tup, ixD_lst, ixD_rol, slD_lst, slD_tup, intQ_i, appD_1, extD_1, lsQ_own, lsQ_bor, gTp_t, gsCons_c, seqQ_t, seqQ_l, seqQ_r, hideS_fz, hideS_own, hideS_bor, hideS_no, mmQ_ii, atI_0, atI_1, atI_2, List.map_cons, List.map_nil, List.replicate, List.cons_append, List.nil_append, List.append_nil, List.set, List.length_cons, List.length_nil, decide_eq_true_eq, if_true, if_false, Bool.not_true, Bool.not_false, Bool.false_eq_true, and_true, true_and, List.nodup_cons, List.not_mem_nil, not_false_eq_true, List.nodup_nil, List.mem_cons, or_false, List.getD])
          refine ⟨by simp, okD_ints (bads_ints _ _ _), okD_ints (ds := []) (by simp), ?_⟩
          rw [eqD_nil]
          dsimp only [dueS] at hQ
          rw [hw] at hQ
          rcases bads_first p6 0 ds with ⟨b1, b2⟩ | ⟨j, r, b1, b2⟩
          · rw [b1]
            rw [b2] at hQ
            (try simp only [dSeq, dIfS, dRet, dRetN, dNext, dSet, dSetO, dDrop, dCall, callQ, dCallKw, dCons, dNil, dBor, dsQ, dTup, dLst, dV, dC, slot, dOp, dUn, dCmp, dCmpT, dChain, dChainT, dTru, dAnd, dOr, dNot, dAndV, dOrV, dNotV, dIf, dIsi, dNoO, dSoO, dSl, bodyQ, endsOf, outsOf, lents, putB, lentQ, dAsg, gNm, gsNil, iSeq, iRng, DL.iRng2, iEnm, dLm, dLm0, dPut, dMm, dYes, hQ, isSub, hideE, pick_0, pick_10, pick_210, rep2, kg, dFor, dLc, wipeD, restD, dPar, ixN3_0, ixN3_1, ixN3_2, ex_some, dRaise_1, dHeard_e, List.set_cons_zero, List.set_cons_succ, rdQ_fz, rdQ_own, rdQ_at, rdS_fz, rdS_own, rdS_bor, frzQ_fz, frzQ_own, frzQ_at, frS_fz, frS_own, nmQ_s, nmS_fz, nmS_own, nmS_bor, retQ_fz, retQ_own, retQ_at, rtS_fz, rtS_own, argsOf_at, argsOf_d, argsOf_n, lnS_own, lnS_bor, lnS_fz, reS_o, reS_b, setF_d, setO_own, setO_fz, setO_at, notBor_fz, notBor_own, notBor_no, isOwn_own, isOwn_bor, addD_ii, addD_ss, addD_ll, addD_tt, subD_ii, mulD_ii, mulD_li, mulD_ti, fdivD_ii, modD_ii, powD_ii, negD_i, ltD_ii, leD_ii, gtD_ii, geD_ii, isQ_n, isQ_b, nisQ_n, isN_non, isN_bl, isN_int, isN_str, isN_tup, isN_lst, isN_rol, isN_dct, isT_int_non, isT_int_bl, isT_int_int, isT_int_str, isT_int_tup, isT_int_lst, isT_int_rol, isT_int_dct, isT_bool_non, isT_bool_bl, isT_bool_int, isT_bool_str, isT_bool_tup, isT_bool_lst, isT_bool_rol, isT_bool_dct, isT_str_non, isT_str_bl, isT_str_int, isT_str_str, isT_str_tup, isT_str_lst, isT_str_rol, isT_str_dct, isT_tuple_non, isT_tuple_bl, isT_tuple_int, isT_tuple_str, isT_tuple_tup, isT_tuple_lst, isT_tuple_rol, isT_tuple_dct, isT_list_non, isT_list_bl, isT_list_int, isT_list_str, isT_list_tup, isT_list_lst, isT_list_rol, isT_list_dct, isT_dict_non, isT_dict_bl, isT_dict_int, isT_dict_str, isT_dict_tup, isT_dict_lst, isT_dict_rol, isT_dict_dct, truQ_non, truQ_bl, truQ_int, truQ_tup, truQ_lst, blQ_bl, lenD_tup, lenD_lst, lenD_rol, lenD_str, tupD_tup, tupD_lst, lstD_tup, lstD_lst, lstD_rol, intD_i, intD_b, boolD_i, boolD_b, ixD_tup, ixD_lst, ixD_rol, slD_lst, slD_tup, intQ_i, appD_1, extD_1, lsQ_own, lsQ_bor, gTp_t, gsCons_c, seqQ_t, seqQ_l, seqQ_r, hideS_fz, hideS_own, hideS_bor, hideS_no, mmQ_ii, atI_0, atI_1, atI_2, List.map_cons, List.map_nil, List.replicate, List.cons_append, List.nil_append, List.append_nil, List.set, List.length_cons, List.length_nil, decide_eq_true_eq, if_true, if_false, Bool.not_true, Bool.not_false, Bool.false_eq_true, and_true, true_and, List.nodup_cons, List.not_mem_nil, not_false_eq_true, List.nodup_nil, List.mem_cons, or_false, List.getD, List.isEmpty_nil])
            exact hQ
          · rw [b1]
            rw [b2] at hQ
            (try simp only [dSeq, dIfS, dRet, dRetN, dNext, dSet, dSetO, dDrop, dCall, callQ, dCallKw, dCons, dNil, dBor, dsQ, dTup, dLst, dV, dC, slot, dOp, dUn, dCmp, dCmpT, dChain, dChainT, dTru, dAnd, dOr, dNot, dAndV, dOrV, dNotV, dIf, dIsi, dNoO, dSoO, dSl, bodyQ, endsOf, outsOf, lents, putB, lentQ, dAsg, gNm, gsNil, iSeq, iRng, DL.iRng2, iEnm, dLm, dLm0, dPut, dMm, dYes, hQ, isSub, hideE, pick_0, pick_10, pick_210, rep2, kg, dFor, dLc, wipeD, restD, dPar, ixN3_0, ixN3_1, ixN3_2, ex_some, dRaise_1, dHeard_e, List.set_cons_zero, List.set_cons_succ, rdQ_fz, rdQ_own, rdQ_at, rdS_fz, rdS_own, rdS_bor, frzQ_fz, frzQ_own, frzQ_at, frS_fz, frS_own, nmQ_s, nmS_fz, nmS_own, nmS_bor, retQ_fz, retQ_own, retQ_at, rtS_fz, rtS_own, argsOf_at, argsOf_d, argsOf_n, lnS_own, lnS_bor, lnS_fz, reS_o, reS_b, setF_d, setO_own, setO_fz, setO_at, notBor_fz, notBor_own, notBor_no, isOwn_own, isOwn_bor, addD_ii, addD_ss, addD_ll, addD_tt, subD_ii, mulD_ii, mulD_li, mulD_ti, fdivD_ii, modD_ii, powD_ii, negD_i, ltD_ii, leD_ii, gtD_ii, geD_ii, isQ_n, isQ_b, nisQ_n, isN_non, isN_bl, isN_int, isN_str, isN_tup, isN_lst, isN_rol, isN_dct, isT_int_non, isT_int_bl, isT_int_int, isT_int_str, isT_int_tup, isT_int_lst, isT_int_rol, isT_int_dct, isT_bool_non, isT_bool_bl, isT_bool_int, isT_bool_str, isT_bool_tup, isT_bool_lst, isT_bool_rol, isT_bool_dct, isT_str_non, isT_str_bl, isT_str_int, isT_str_str, isT_str_tup, isT_str_lst, isT_str_rol, isT_str_dct, isT_tuple_non, isT_tuple_bl, isT_tuple_int, isT_tuple_str, isT_tuple_tup, isT_tuple_lst, isT_tuple_rol, isT_tuple_dct, isT_list_non, isT_list_bl, isT_list_int, isT_list_str, isT_list_tup, isT_list_lst, isT_list_rol, isT_list_dct, isT_dict_non, isT_dict_bl, isT_dict_int, isT_dict_str, isT_dict_tup, isT_dict_lst, isT_dict_rol, isT_dict_dct, truQ_non, truQ_bl, truQ_int, truQ_tup, truQ_lst, blQ_bl, lenD_tup, lenD_lst, lenD_rol, lenD_str, tupD_tup, tupD_lst, lstD_tup, lstD_lst, lstD_rol, intD_i, intD_b, boolD_i, boolD_b, ixD_tup, ixD_lst, ixD_rol, slD_lst, slD_tup, intQ_i, appD_1, extD_1, lsQ_own, lsQ_bor, gTp_t, gsCons_c, seqQ_t, seqQ_l, seqQ_r, hideS_fz, hideS_own, hideS_bor, hideS_no, mmQ_ii, atI_0, atI_1, atI_2, List.map_cons, List.map_nil, List.replicate, List.cons_append, List.nil_append, List.append_nil, List.set, List.length_cons, List.length_nil, decide_eq_true_eq, if_true, if_false, Bool.not_true, Bool.not_false, Bool.false_eq_true, and_true, true_and, List.nodup_cons, List.not_mem_nil, not_false_eq_true, List.nodup_nil, List.mem_cons, or_false, List.getD, List.isEmpty_cons, atI_0])
            exact ⟨by rw [sizeLine_eq]; omega, hQ⟩
      · rintro d rest acc η K ⟨i, ys, r1, r2, r3, r4, rfl⟩ hK
        cases ys with
        | nil => cases r1
        | cons y ys =>
          obtain ⟨rfl, rfl⟩ := List.cons.inj r1
          have gi : ds[i]? = some y := by
            have := congrArg (fun l => l[0]?) r2
            simpa using this
          have hi : i < ds.length := (List.getElem?_eq_some_iff.mp gi).1
          have dr : ds.drop (i + 1) = ys := by
            rw [List.drop_eq_getElem_cons hi] at r2
            exact (List.cons.inj r2).2
          have acl : acc.length < sizeLine := by
            have := hd _ rfl
            omega
          have ga : atI ds (i : Nat) = some y := atI_nat (by omega) (by rw [show ((i : Nat) : Int).toNat = i by omega]; exact gi)
          (try simp only [dSeq, dIfS, dRet, dRetN, dNext, dSet, dSetO, dDrop, dCall, callQ, dCallKw, dCons, dNil, dBor, dsQ, dTup, dLst, dV, dC, slot, dOp, dUn, dCmp, dCmpT, dChain, dChainT, dTru, dAnd, dOr, dNot, dAndV, dOrV, dNotV, dIf, dIsi, dNoO, dSoO, dSl, bodyQ, endsOf, outsOf, lents, putB, lentQ, dAsg, gNm, gsNil, iSeq, iRng, DL.iRng2, iEnm, dLm, dLm0, dPut, dMm, dYes, hQ, isSub, hideE, pick_0, pick_10, pick_210, rep2, kg, dFor, dLc, wipeD, restD, dPar, ixN3_0, ixN3_1, ixN3_2, ex_some, dRaise_1, dHeard_e, List.set_cons_zero, List.set_cons_succ, rdQ_fz, rdQ_own, rdQ_at, rdS_fz, rdS_own, rdS_bor, frzQ_fz, frzQ_own, frzQ_at, frS_fz, frS_own, nmQ_s, nmS_fz, nmS_own, nmS_bor, retQ_fz, retQ_own, retQ_at, rtS_fz, rtS_own, argsOf_at, argsOf_d, argsOf_n, lnS_own, lnS_bor, lnS_fz, reS_o, reS_b, setF_d, setO_own, setO_fz, setO_at, notBor_fz, notBor_own, notBor_no, isOwn_own, isOwn_bor, addD_ii, addD_ss, addD_ll, addD_tt, subD_ii, mulD_ii, mulD_li, mulD_ti, fdivD_ii, modD_ii, powD_ii, negD_i, ltD_ii, leD_ii, gtD_ii, geD_ii, isQ_n, isQ_b, nisQ_n, isN_non, isN_bl, isN_int, isN_str, isN_tup, isN_lst, isN_rol, isN_dct, isT_int_non, isT_int_bl, isT_int_int, isT_int_str, isT_int_tup, isT_int_lst, isT_int_rol, isT_int_dct, isT_bool_non, isT_bool_bl, isT_bool_int, isT_bool_str, isT_bool_tup, isT_bool_lst, isT_bool_rol, isT_bool_dct, isT_str_non, isT_str_bl, isT_str_int, isT_str_str, isT_str_tup, isT_str_lst, isT_str_rol, isT_str_dct, isT_tuple_non, isT_tuple_bl, isT_tuple_int, isT_tuple_str, isT_tuple_tup, isT_tuple_lst, isT_tuple_rol, isT_tuple_dct, isT_list_non, isT_list_bl, isT_list_int, isT_list_str, isT_list_tup, isT_list_lst, isT_list_rol, isT_list_dct, isT_dict_non, isT_dict_bl, isT_dict_int, isT_dict_str, isT_dict_tup, isT_dict_lst, isT_dict_rol, isT_dict_dct, truQ_non, truQ_bl, truQ_int, truQ_tup, truQ_lst, blQ_bl, lenD_tup, lenD_lst, lenD_rol, lenD_str, tupD_tup, tupD_lst, lstD_tup, lstD_lst, lstD_rol, intD_i, intD_b, boolD_i, boolD_b, ixD_tup, ixD_lst, ixD_rol, slD_lst, slD_tup, intQ_i, appD_1, extD_1, lsQ_own, lsQ_bor, gTp_t, gsCons_c, seqQ_t, seqQ_l, seqQ_r, hideS_fz, hideS_own, hideS_bor, hideS_no, mmQ_ii, atI_0, atI_1, atI_2, List.map_cons, List.map_nil, List.replicate, List.cons_append, List.nil_append, List.append_nil, List.set, List.length_cons, List.length_nil, decide_eq_true_eq, if_true, if_false, Bool.not_true, Bool.not_false, Bool.false_eq_true, and_true, true_and, List.nodup_cons, List.not_mem_nil, not_false_eq_true, List.nodup_nil, List.mem_cons, or_false, List.getD, ga])
          refine ⟨(by simp [lents, slot, Sl.isOwn]), w_whole ?_⟩
          have bd : ∀ (_ : p6 i y = false), K (acc ++ [.int (i : Nat)]) [.fz (.tup ds), .no, .no] := fun h => hK _ _ ⟨i + 1, ys, rfl, dr, by
            rw [← r3, bads_no h, List.append_assoc]; rfl, by simp; omega, rfl⟩
          have gd : ∀ (_ : p6 i y = true), K acc [.fz (.tup ds), .no, .no] := fun h => hK _ _ ⟨i + 1, ys, rfl, dr, by
            rw [← r3, bads_ok h], by omega, rfl⟩
          rcases p6_whole i y with ⟨w1, w2⟩ | ⟨x, rfl⟩
          · (try simp only [dSeq, dIfS, dRet, dRetN, dNext, dSet, dSetO, dDrop, dCall, callQ, dCallKw, dCons, dNil, dBor, dsQ, dTup, dLst, dV, dC, slot, dOp, dUn, dCmp, dCmpT, dChain, dChainT, dTru, dAnd, dOr, dNot, dAndV, dOrV, dNotV, dIf, dIsi, dNoO, dSoO, dSl, bodyQ, endsOf, outsOf, lents, putB, lentQ, dAsg, gNm, gsNil, iSeq, iRng, DL.iRng2, iEnm, dLm, dLm0, dPut, dMm, dYes, hQ, isSub, hideE, pick_0, pick_10, pick_210, rep2, kg, dFor, dLc, wipeD, restD, dPar, ixN3_0, ixN3_1, ixN3_2, ex_some, dRaise_1, dHeard_e, List.set_cons_zero, List.set_cons_succ, rdQ_fz, rdQ_own, rdQ_at, rdS_fz, rdS_own, rdS_bor, frzQ_fz, frzQ_own, frzQ_at, frS_fz, frS_own, nmQ_s, nmS_fz, nmS_own, nmS_bor, retQ_fz, retQ_own, retQ_at, rtS_fz, rtS_own, argsOf_at, argsOf_d, argsOf_n, lnS_own, lnS_bor, lnS_fz, reS_o, reS_b, setF_d, setO_own, setO_fz, setO_at, notBor_fz, notBor_own, notBor_no, isOwn_own, isOwn_bor, addD_ii, addD_ss, addD_ll, addD_tt, subD_ii, mulD_ii, mulD_li, mulD_ti, fdivD_ii, modD_ii, powD_ii, negD_i, ltD_ii, leD_ii, gtD_ii, geD_ii, isQ_n, isQ_b, nisQ_n, isN_non, isN_bl, isN_int, isN_str, isN_tup, isN_lst, isN_rol, isN_dct, isT_int_non, isT_int_bl, isT_int_int, isT_int_str, isT_int_tup, isT_int_lst, isT_int_rol, isT_int_dct, isT_bool_non, isT_bool_bl, isT_bool_int, isT_bool_str, isT_bool_tup, isT_bool_lst, isT_bool_rol, isT_bool_dct, isT_str_non, isT_str_bl, isT_str_int, isT_str_str, isT_str_tup, isT_str_lst, isT_str_rol, isT_str_dct, isT_tuple_non, isT_tuple_bl, isT_tuple_int, isT_tuple_str, isT_tuple_tup, isT_tuple_lst, isT_tuple_rol, isT_tuple_dct, isT_list_non, isT_list_bl, isT_list_int, isT_list_str, isT_list_tup, isT_list_lst, isT_list_rol, isT_list_dct, isT_dict_non, isT_dict_bl, isT_dict_int, isT_dict_str, isT_dict_tup, isT_dict_lst, isT_dict_rol, isT_dict_dct, truQ_non, truQ_bl, truQ_int, truQ_tup, truQ_lst, blQ_bl, lenD_tup, lenD_lst, lenD_rol, lenD_str, tupD_tup, tupD_lst, lstD_tup, lstD_lst, lstD_rol, intD_i, intD_b, boolD_i, boolD_b, ixD_tup, ixD_lst, ixD_rol, slD_lst, slD_tup, intQ_i, appD_1, extD_1, lsQ_own, lsQ_bor, gTp_t, gsCons_c, seqQ_t, seqQ_l, seqQ_r, hideS_fz, hideS_own, hideS_bor, hideS_no, mmQ_ii, atI_0, atI_1, atI_2, List.map_cons, List.map_nil, List.replicate, List.cons_append, List.nil_append, List.append_nil, List.set, List.length_cons, List.length_nil, decide_eq_true_eq, if_true, if_false, Bool.not_true, Bool.not_false, Bool.false_eq_true, and_true, true_and, List.nodup_cons, List.not_mem_nil, not_false_eq_true, List.nodup_nil, List.mem_cons, or_false, List.getD, w1])
            exact ⟨acl, by simp [wipeOk, slot, notBor], bd w2⟩
          · (try simp only [dSeq, dIfS, dRet, dRetN, dNext, dSet, dSetO, dDrop, dCall, callQ, dCallKw, dCons, dNil, dBor, dsQ, dTup, dLst, dV, dC, slot, dOp, dUn, dCmp, dCmpT, dChain, dChainT, dTru, dAnd, dOr, dNot, dAndV, dOrV, dNotV, dIf, dIsi, dNoO, dSoO, dSl, bodyQ, endsOf, outsOf, lents, putB, lentQ, dAsg, gNm, gsNil, iSeq, iRng, DL.iRng2, iEnm, dLm, dLm0, dPut, dMm, dYes, hQ, isSub, hideE, pick_0, pick_10, pick_210, rep2, kg, dFor, dLc, wipeD, restD, dPar, ixN3_0, ixN3_1, ixN3_2, ex_some, dRaise_1, dHeard_e, List.set_cons_zero, List.set_cons_succ, rdQ_fz, rdQ_own, rdQ_at, rdS_fz, rdS_own, rdS_bor, frzQ_fz, frzQ_own, frzQ_at, frS_fz, frS_own, nmQ_s, nmS_fz, nmS_own, nmS_bor, retQ_fz, retQ_own, retQ_at, rtS_fz, rtS_own, argsOf_at, argsOf_d, argsOf_n, lnS_own, lnS_bor, lnS_fz, reS_o, reS_b, setF_d, setO_own, setO_fz, setO_at, notBor_fz, notBor_own, notBor_no, isOwn_own, isOwn_bor, addD_ii, addD_ss, addD_ll, addD_tt, subD_ii, mulD_ii, mulD_li, mulD_ti, fdivD_ii, modD_ii, powD_ii, negD_i, ltD_ii, leD_ii, gtD_ii, geD_ii, isQ_n, isQ_b, nisQ_n, isN_non, isN_bl, isN_int, isN_str, isN_tup, isN_lst, isN_rol, isN_dct, isT_int_non, isT_int_bl, isT_int_int, isT_int_str, isT_int_tup, isT_int_lst, isT_int_rol, isT_int_dct, isT_bool_non, isT_bool_bl, isT_bool_int, isT_bool_str, isT_bool_tup, isT_bool_lst, isT_bool_rol, isT_bool_dct, isT_str_non, isT_str_bl, isT_str_int, isT_str_str, isT_str_tup, isT_str_lst, isT_str_rol, isT_str_dct, isT_tuple_non, isT_tuple_bl, isT_tuple_int, isT_tuple_str, isT_tuple_tup, isT_tuple_lst, isT_tuple_rol, isT_tuple_dct, isT_list_non, isT_list_bl, isT_list_int, isT_list_str, isT_list_tup, isT_list_lst, isT_list_rol, isT_list_dct, isT_dict_non, isT_dict_bl, isT_dict_int, isT_dict_str, isT_dict_tup, isT_dict_lst, isT_dict_rol, isT_dict_dct, truQ_non, truQ_bl, truQ_int, truQ_tup, truQ_lst, blQ_bl, lenD_tup, lenD_lst, lenD_rol, lenD_str, tupD_tup, tupD_lst, lstD_tup, lstD_lst, lstD_rol, intD_i, intD_b, boolD_i, boolD_b, ixD_tup, ixD_lst, ixD_rol, slD_lst, slD_tup, intQ_i, appD_1, extD_1, lsQ_own, lsQ_bor, gTp_t, gsCons_c, seqQ_t, seqQ_l, seqQ_r, hideS_fz, hideS_own, hideS_bor, hideS_no, mmQ_ii, atI_0, atI_1, atI_2, List.map_cons, List.map_nil, List.replicate, List.cons_append, List.nil_append, List.append_nil, List.set, List.length_cons, List.length_nil, decide_eq_true_eq, if_true, if_false, Bool.not_true, Bool.not_false, Bool.false_eq_true, and_true, true_and, List.nodup_cons, List.not_mem_nil, not_false_eq_true, List.nodup_nil, List.mem_cons, or_false, List.getD, ga])
            by_cases c1 : (1 : Int) ≤ x
            · (try simp only [dSeq, dIfS, dRet, dRetN, dNext, dSet, dSetO, dDrop, dCall, callQ, dCallKw, dCons, dNil, dBor, dsQ, dTup, dLst, dV, dC, slot, dOp, dUn, dCmp, dCmpT, dChain, dChainT, dTru, dAnd, dOr, dNot, dAndV, dOrV, dNotV, dIf, dIsi, dNoO, dSoO, dSl, bodyQ, endsOf, outsOf, lents, putB, lentQ, dAsg, gNm, gsNil, iSeq, iRng, DL.iRng2, iEnm, dLm, dLm0, dPut, dMm, dYes, hQ, isSub, hideE, pick_0, pick_10, pick_210, rep2, kg, dFor, dLc, wipeD, restD, dPar, ixN3_0, ixN3_1, ixN3_2, ex_some, dRaise_1, dHeard_e, List.set_cons_zero, List.set_cons_succ, rdQ_fz, rdQ_own, rdQ_at, rdS_fz, rdS_own, rdS_bor, frzQ_fz, frzQ_own, frzQ_at, frS_fz, frS_own, nmQ_s, nmS_fz, nmS_own, nmS_bor, retQ_fz, retQ_own, retQ_at, rtS_fz, rtS_own, argsOf_at, argsOf_d, argsOf_n, lnS_own, lnS_bor, lnS_fz, reS_o, reS_b, setF_d, setO_own, setO_fz, setO_at, notBor_fz, notBor_own, notBor_no, isOwn_own, isOwn_bor, addD_ii, addD_ss, addD_ll, addD_tt, subD_ii, mulD_ii, mulD_li, mulD_ti, fdivD_ii, modD_ii, powD_ii, negD_i, ltD_ii, leD_ii, gtD_ii, geD_ii, isQ_n, isQ_b, nisQ_n, isN_non, isN_bl, isN_int, isN_str, isN_tup, isN_lst, isN_rol, isN_dct, isT_int_non, isT_int_bl, isT_int_int, isT_int_str, isT_int_tup, isT_int_lst, isT_int_rol, isT_int_dct, isT_bool_non, isT_bool_bl, isT_bool_int, isT_bool_str, isT_bool_tup, isT_bool_lst, isT_bool_rol, isT_bool_dct, isT_str_non, isT_str_bl, isT_str_int, isT_str_str, isT_str_tup, isT_str_lst, isT_str_rol, isT_str_dct, isT_tuple_non, isT_tuple_bl, isT_tuple_int, isT_tuple_str, isT_tuple_tup, isT_tuple_lst, isT_tuple_rol, isT_tuple_dct, isT_list_non, isT_list_bl, isT_list_int, isT_list_str, isT_list_tup, isT_list_lst, isT_list_rol, isT_list_dct, isT_dict_non, isT_dict_bl, isT_dict_int, isT_dict_str, isT_dict_tup, isT_dict_lst, isT_dict_rol, isT_dict_dct, truQ_non, truQ_bl, truQ_int, truQ_tup, truQ_lst, blQ_bl, lenD_tup, lenD_lst, lenD_rol, lenD_str, tupD_tup, tupD_lst, lstD_tup, lstD_lst, lstD_rol, intD_i, intD_b, boolD_i, boolD_b, ixD_tup, ixD_lst, ixD_rol, slD_lst, slD_tup, intQ_i, appD_1, extD_1, lsQ_own, lsQ_bor, gTp_t, gsCons_c, seqQ_t, seqQ_l, seqQ_r, hideS_fz, hideS_own, hideS_bor, hideS_no, mmQ_ii, atI_0, atI_1, atI_2, List.map_cons, List.map_nil, List.replicate, List.cons_append, List.nil_append, List.append_nil, List.set, List.length_cons, List.length_nil, decide_eq_true_eq, if_true, if_false, Bool.not_true, Bool.not_false, Bool.false_eq_true, and_true, true_and, List.nodup_cons, List.not_mem_nil, not_false_eq_true, List.nodup_nil, List.mem_cons, or_false, List.getD, c1, ga])
              by_cases c2 : x ≤ 6
              · (try simp only [dSeq, dIfS, dRet, dRetN, dNext, dSet, dSetO, dDrop, dCall, callQ, dCallKw, dCons, dNil, dBor, dsQ, dTup, dLst, dV, dC, slot, dOp, dUn, dCmp, dCmpT, dChain, dChainT, dTru, dAnd, dOr, dNot, dAndV, dOrV, dNotV, dIf, dIsi, dNoO, dSoO, dSl, bodyQ, endsOf, outsOf, lents, putB, lentQ, dAsg, gNm, gsNil, iSeq, iRng, DL.iRng2, iEnm, dLm, dLm0, dPut, dMm, dYes, hQ, isSub, hideE, pick_0, pick_10, pick_210, rep2, kg, dFor, dLc, wipeD, restD, dPar, ixN3_0, ixN3_1, ixN3_2, ex_some, dRaise_1, dHeard_e, List.set_cons_zero, List.set_cons_succ, rdQ_fz, rdQ_own, rdQ_at, rdS_fz, rdS_own, rdS_bor, frzQ_fz, frzQ_own, frzQ_at, frS_fz, frS_own, nmQ_s, nmS_fz, nmS_own, nmS_bor, retQ_fz, retQ_own, retQ_at, rtS_fz, rtS_own, argsOf_at, argsOf_d, argsOf_n, lnS_own, lnS_bor, lnS_fz, reS_o, reS_b, setF_d, setO_own, setO_fz, setO_at, notBor_fz, notBor_own, notBor_no, isOwn_own, isOwn_bor, addD_ii, addD_ss, addD_ll, addD_tt, subD_ii, mulD_ii, mulD_li, mulD_ti, fdivD_ii, modD_ii, powD_ii, negD_i, ltD_ii, leD_ii, gtD_ii, geD_ii, isQ_n, isQ_b, nisQ_n, isN_non, isN_bl, isN_int, isN_str, isN_tup, isN_lst, isN_rol, isN_dct, isT_int_non, isT_int_bl, isT_int_int, isT_int_str, isT_int_tup, isT_int_lst, isT_int_rol, isT_int_dct, isT_bool_non, isT_bool_bl, isT_bool_int, isT_bool_str, isT_bool_tup, isT_bool_lst, isT_bool_rol, isT_bool_dct, isT_str_non, isT_str_bl, isT_str_int, isT_str_str, isT_str_tup, isT_str_lst, isT_str_rol, isT_str_dct, isT_tuple_non, isT_tuple_bl, isT_tuple_int, isT_tuple_str, isT_tuple_tup, isT_tuple_lst, isT_tuple_rol, isT_tuple_dct, isT_list_non, isT_list_bl, isT_list_int, isT_list_str, isT_list_tup, isT_list_lst, isT_list_rol, isT_list_dct, isT_dict_non, isT_dict_bl, isT_dict_int, isT_dict_str, isT_dict_tup, isT_dict_lst, isT_dict_rol, isT_dict_dct, truQ_non, truQ_bl, truQ_int, truQ_tup, truQ_lst, blQ_bl, lenD_tup, lenD_lst, lenD_rol, lenD_str, tupD_tup, tupD_lst, lstD_tup, lstD_lst, lstD_rol, intD_i, intD_b, boolD_i, boolD_b, ixD_tup, ixD_lst, ixD_rol, slD_lst, slD_tup, intQ_i, appD_1, extD_1, lsQ_own, lsQ_bor, gTp_t, gsCons_c, seqQ_t, seqQ_l, seqQ_r, hideS_fz, hideS_own, hideS_bor, hideS_no, mmQ_ii, atI_0, atI_1, atI_2, List.map_cons, List.map_nil, List.replicate, List.cons_append, List.nil_append, List.append_nil, List.set, List.length_cons, List.length_nil, decide_eq_true_eq, if_true, if_false, Bool.not_true, Bool.not_false, Bool.false_eq_true, and_true, true_and, List.nodup_cons, List.not_mem_nil, not_false_eq_true, List.nodup_nil, List.mem_cons, or_false, List.getD, c2, decide_true])
                exact ⟨by simp [wipeOk, slot, notBor], gd (by simp [p6, betw, c1, c2])⟩
              · (try simp only [dSeq, dIfS, dRet, dRetN, dNext, dSet, dSetO, dDrop, dCall, callQ, dCallKw, dCons, dNil, dBor, dsQ, dTup, dLst, dV, dC, slot, dOp, dUn, dCmp, dCmpT, dChain, dChainT, dTru, dAnd, dOr, dNot, dAndV, dOrV, dNotV, dIf, dIsi, dNoO, dSoO, dSl, bodyQ, endsOf, outsOf, lents, putB, lentQ, dAsg, gNm, gsNil, iSeq, iRng, DL.iRng2, iEnm, dLm, dLm0, dPut, dMm, dYes, hQ, isSub, hideE, pick_0, pick_10, pick_210, rep2, kg, dFor, dLc, wipeD, restD, dPar, ixN3_0, ixN3_1, ixN3_2, ex_some, dRaise_1, dHeard_e, List.set_cons_zero, List.set_cons_succ, rdQ_fz, rdQ_own, rdQ_at, rdS_fz, rdS_own, rdS_bor, frzQ_fz, frzQ_own, frzQ_at, frS_fz, frS_own, nmQ_s, nmS_fz, nmS_own, nmS_bor, retQ_fz, retQ_own, retQ_at, rtS_fz, rtS_own, argsOf_at, argsOf_d, argsOf_n, lnS_own, lnS_bor, lnS_fz, reS_o, reS_b, setF_d, setO_own, setO_fz, setO_at, notBor_fz, notBor_own, notBor_no, isOwn_own, isOwn_bor, addD_ii, addD_ss, addD_ll, addD_tt, subD_ii, mulD_ii, mulD_li, mulD_ti, fdivD_ii, modD_ii, powD_ii, negD_i, ltD_ii, leD_ii, gtD_ii, geD_ii, isQ_n, isQ_b, nisQ_n, isN_non, isN_bl, isN_int, isN_str, isN_tup, isN_lst, isN_rol, isN_dct, isT_int_non, isT_int_bl, isT_int_int, isT_int_str, isT_int_tup, isT_int_lst, isT_int_rol, isT_int_dct, isT_bool_non, isT_bool_bl, isT_bool_int, isT_bool_str, isT_bool_tup, isT_bool_lst, isT_bool_rol, isT_bool_dct, isT_str_non, isT_str_bl, isT_str_int, isT_str_str, isT_str_tup, isT_str_lst, isT_str_rol, isT_str_dct, isT_tuple_non, isT_tuple_bl, isT_tuple_int, isT_tuple_str, isT_tuple_tup, isT_tuple_lst, isT_tuple_rol, isT_tuple_dct, isT_list_non, isT_list_bl, isT_list_int, isT_list_str, isT_list_tup, isT_list_lst, isT_list_rol, isT_list_dct, isT_dict_non, isT_dict_bl, isT_dict_int, isT_dict_str, isT_dict_tup, isT_dict_lst, isT_dict_rol, isT_dict_dct, truQ_non, truQ_bl, truQ_int, truQ_tup, truQ_lst, blQ_bl, lenD_tup, lenD_lst, lenD_rol, lenD_str, tupD_tup, tupD_lst, lstD_tup, lstD_lst, lstD_rol, intD_i, intD_b, boolD_i, boolD_b, ixD_tup, ixD_lst, ixD_rol, slD_lst, slD_tup, intQ_i, appD_1, extD_1, lsQ_own, lsQ_bor, gTp_t, gsCons_c, seqQ_t, seqQ_l, seqQ_r, hideS_fz, hideS_own, hideS_bor, hideS_no, mmQ_ii, atI_0, atI_1, atI_2, List.map_cons, List.map_nil, List.replicate, List.cons_append, List.nil_append, List.append_nil, List.set, List.length_cons, List.length_nil, decide_eq_true_eq, if_true, if_false, Bool.not_true, Bool.not_false, Bool.false_eq_true, and_true, true_and, List.nodup_cons, List.not_mem_nil, not_false_eq_true, List.nodup_nil, List.mem_cons, or_false, List.getD, c2, decide_false])
                exact ⟨acl, by simp [wipeOk, slot, notBor], bd (by simp [p6, betw, c2])⟩
            · (try simp only [dSeq, dIfS, dRet, dRetN, dNext, dSet, dSetO, dDrop, dCall, callQ, dCallKw, dCons, dNil, dBor, dsQ, dTup, dLst, dV, dC, slot, dOp, dUn, dCmp, dCmpT, dChain, dChainT, dTru, dAnd, dOr, dNot, dAndV, dOrV, dNotV, dIf, dIsi, dNoO, dSoO, dSl, bodyQ, endsOf, outsOf, lents, putB, lentQ, dAsg, gNm, gsNil, iSeq, iRng, DL.iRng2, iEnm, dLm, dLm0, dPut, dMm, dYes, hQ, isSub, hideE, pick_0, pick_10, pick_210, rep2, kg, dFor, dLc, wipeD, restD, dPar, ixN3_0, ixN3_1, ixN3_2, ex_some, dRaise_1, dHeard_e, List.set_cons_zero, List.set_cons_succ, rdQ_fz, rdQ_own, rdQ_at, rdS_fz, rdS_own, rdS_bor, frzQ_fz, frzQ_own, frzQ_at, frS_fz, frS_own, nmQ_s, nmS_fz, nmS_own, nmS_bor, retQ_fz, retQ_own, retQ_at, rtS_fz, rtS_own, argsOf_at, argsOf_d, argsOf_n, lnS_own, lnS_bor, lnS_fz, reS_o, reS_b, setF_d, setO_own, setO_fz, setO_at, notBor_fz, notBor_own, notBor_no, isOwn_own, isOwn_bor, addD_ii, addD_ss, addD_ll, addD_tt, subD_ii, mulD_ii, mulD_li, mulD_ti, fdivD_ii, modD_ii, powD_ii, negD_i, ltD_ii, leD_ii, gtD_ii, geD_ii, isQ_n, isQ_b, nisQ_n, isN_non, isN_bl, isN_int, isN_str, isN_tup, isN_lst, isN_rol, isN_dct, isT_int_non, isT_int_bl, isT_int_int, isT_int_str, isT_int_tup, isT_int_lst, isT_int_rol, isT_int_dct, isT_bool_non, isT_bool_bl, isT_bool_int, isT_bool_str, isT_bool_tup, isT_bool_lst, isT_bool_rol, isT_bool_dct, isT_str_non, isT_str_bl, isT_str_int, isT_str_str, isT_str_tup, isT_str_lst, isT_str_rol, isT_str_dct, isT_tuple_non, isT_tuple_bl, isT_tuple_int, isT_tuple_str, isT_tuple_tup, isT_tuple_lst, isT_tuple_rol, isT_tuple_dct, isT_list_non, isT_list_bl, isT_list_int, isT_list_str, isT_list_tup, isT_list_lst, isT_list_rol, isT_list_dct, isT_dict_non, isT_dict_bl, isT_dict_int, isT_dict_str, isT_dict_tup, isT_dict_lst, isT_dict_rol, isT_dict_dct, truQ_non, truQ_bl, truQ_int, truQ_tup, truQ_lst, blQ_bl, lenD_tup, lenD_lst, lenD_rol, lenD_str, tupD_tup, tupD_lst, lstD_tup, lstD_lst, lstD_rol, intD_i, intD_b, boolD_i, boolD_b, ixD_tup, ixD_lst, ixD_rol, slD_lst, slD_tup, intQ_i, appD_1, extD_1, lsQ_own, lsQ_bor, gTp_t, gsCons_c, seqQ_t, seqQ_l, seqQ_r, hideS_fz, hideS_own, hideS_bor, hideS_no, mmQ_ii, atI_0, atI_1, atI_2, List.map_cons, List.map_nil, List.replicate, List.cons_append, List.nil_append, List.append_nil, List.set, List.length_cons, List.length_nil, decide_eq_true_eq, if_true, if_false, Bool.not_true, Bool.not_false, Bool.false_eq_true, and_true, true_and, List.nodup_cons, List.not_mem_nil, not_false_eq_true, List.nodup_nil, List.mem_cons, or_false, List.getD, c1])
              exact ⟨acl, by simp [wipeOk, slot, notBor], bd (by simp [p6, betw, c1])⟩
    · have hw : wsD (.tup ds) = .int (-1) := by dsimp only [wsD]; rw [if_neg h1]
      dsimp only [dueS] at hQ
      rw [hw] at hQ
      have fin : Q (.fz (.tup [.str "BadSizes", .int (-1)])) [] := hQ
      by_cases c1 : (1 : Int) ≤ (ds.length : Nat)
      · have c2 : ¬ ((ds.length : Nat) : Int) ≤ 24 := by omega
        (try simp only [dSeq, dIfS, dRet, dRetN, dNext, dSet, dSetO, dDrop, dCall, callQ, dCallKw, dCons, dNil, dBor, dsQ, dTup, dLst, dV, dC, slot, dOp, dUn, dCmp, dCmpT, dChain, dChainT, dTru, dAnd, dOr, dNot, dAndV, dOrV, dNotV, dIf, dIsi, dNoO, dSoO, dSl, bodyQ, endsOf, outsOf, lents, putB, lentQ, dAsg, gNm, gsNil, iSeq, iRng, DL.iRng2, iEnm, dLm, dLm0, dPut, dMm, dYes, hQ, isSub, hideE, pick_0, pick_10, pick_210, rep2, kg, dFor, dLc, wipeD, restD, dPar, ixN3_0, ixN3_1, ixN3_2, ex_some, dRaise_1, dHeard_e, List.set_cons_zero, List.set_cons_succ, rdQ_fz, rdQ_own, rdQ_at, rdS_fz, rdS_own, rdS_bor, frzQ_fz, frzQ_own, frzQ_at, frS_fz, frS_own, nmQ_s, nmS_fz, nmS_own, nmS_bor, retQ_fz, retQ_own, retQ_at, rtS_fz, rtS_own, argsOf_at, argsOf_d, argsOf_n, lnS_own, lnS_bor, lnS_fz, reS_o, reS_b, setF_d, setO_own, setO_fz, setO_at, notBor_fz, notBor_own, notBor_no, isOwn_own, isOwn_bor, addD_ii, addD_ss, addD_ll, addD_tt, subD_ii, mulD_ii, mulD_li, mulD_ti, fdivD_ii, modD_ii, powD_ii, negD_i, ltD_ii, leD_ii, gtD_ii, geD_ii, isQ_n, isQ_b, nisQ_n, isN_non, isN_bl, isN_int, isN_str, isN_tup, isN_lst, isN_rol, isN_dct, isT_int_non, isT_int_bl, isT_int_int, isT_int_str, isT_int_tup, isT_int_lst, isT_int_rol, isT_int_dct, isT_bool_non, isT_bool_bl, isT_bool_int, isT_bool_str, isT_bool_tup, isT_bool_lst, isT_bool_rol, isT_bool_dct, isT_str_non, isT_str_bl, isT_str_int, isT_str_str, isT_str_tup, isT_str_lst, isT_str_rol, isT_str_dct, isT_tuple_non, isT_tuple_bl, isT_tuple_int, isT_tuple_str, isT_tuple_tup, isT_tuple_lst, isT_tuple_rol, isT_tuple_dct, isT_list_non, isT_list_bl, isT_list_int, isT_list_str, isT_list_tup, isT_list_lst, isT_list_rol, isT_list_dct, isT_dict_non, isT_dict_bl, isT_dict_int, isT_dict_str, isT_dict_tup, isT_dict_lst, isT_dict_rol, isT_dict_dct, truQ_non, truQ_bl, truQ_int, truQ_tup, truQ_lst, blQ_bl, lenD_tup, lenD_lst, lenD_rol, lenD_str, tupD_tup, tupD_lst, lstD_tup, lstD_lst, lstD_rol, intD_i, intD_b, boolD_i, boolD_b, ixD_tup, ixD_lst, ixD_rol, slD_lst, slD_tup, intQ_i, appD_1, extD_1, lsQ_own, lsQ_bor, gTp_t, gsCons_c, seqQ_t, seqQ_l, seqQ_r, hideS_fz, hideS_own, hideS_bor, hideS_no, mmQ_ii, atI_0, atI_1, atI_2, List.map_cons, List.map_nil, List.replicate, List.cons_append, List.nil_append, List.append_nil, List.set, List.length_cons, List.length_nil, decide_eq_true_eq, if_true, if_false, Bool.not_true, Bool.not_false, Bool.false_eq_true, and_true, true_and, List.nodup_cons, List.not_mem_nil, not_false_eq_true, List.nodup_nil, List.mem_cons, or_false, List.getD, c1, c2, decide_false])
        exact ⟨by rw [sizeLine_eq]; omega, fin⟩
      · (try simp only [dSeq, dIfS, dRet, dRetN, dNext, dSet, dSetO, dDrop, dCall, callQ, dCallKw, dCons, dNil, dBor, dsQ, dTup, dLst, dV, dC, slot, dOp, dUn, dCmp, dCmpT, dChain, dChainT, dTru, dAnd, dOr, dNot, dAndV, dOrV, dNotV, dIf, dIsi, dNoO, dSoO, dSl, bodyQ, endsOf, outsOf, lents, putB, lentQ, dAsg, gNm, gsNil, iSeq, iRng, DL.iRng2, iEnm, dLm, dLm0, dPut, dMm, dYes, hQ, isSub, hideE, pick_0, pick_10, pick_210, rep2, kg, dFor, dLc, wipeD, restD, dPar, ixN3_0, ixN3_1, ixN3_2, ex_some, dRaise_1, dHeard_e, List.set_cons_zero, List.set_cons_succ, rdQ_fz, rdQ_own, rdQ_at, rdS_fz, rdS_own, rdS_bor, frzQ_fz, frzQ_own, frzQ_at, frS_fz, frS_own, nmQ_s, nmS_fz, nmS_own, nmS_bor, retQ_fz, retQ_own, retQ_at, rtS_fz, rtS_own, argsOf_at, argsOf_d, argsOf_n, lnS_own, lnS_bor, lnS_fz, reS_o, reS_b, setF_d, setO_own, setO_fz, setO_at, notBor_fz, notBor_own, notBor_no, isOwn_own, isOwn_bor, addD_ii, addD_ss, addD_ll, addD_tt, subD_ii, mulD_ii, mulD_li, mulD_ti, fdivD_ii, modD_ii, powD_ii, negD_i, ltD_ii, leD_ii, gtD_ii, geD_ii, isQ_n, isQ_b, nisQ_n, isN_non, isN_bl, isN_int, isN_str, isN_tup, isN_lst, isN_rol, isN_dct, isT_int_non, isT_int_bl, isT_int_int, isT_int_str, isT_int_tup, isT_int_lst, isT_int_rol, isT_int_dct, isT_bool_non, isT_bool_bl, isT_bool_int, isT_bool_str, isT_bool_tup, isT_bool_lst, isT_bool_rol, isT_bool_dct, isT_str_non, isT_str_bl, isT_str_int, isT_str_str, isT_str_tup, isT_str_lst, isT_str_rol, isT_str_dct, isT_tuple_non, isT_tuple_bl, isT_tuple_int, isT_tuple_str, isT_tuple_tup, isT_tuple_lst, isT_tuple_rol, isT_tuple_dct, isT_list_non, isT_list_bl, isT_list_int, isT_list_str, isT_list_tup, isT_list_lst, isT_list_rol, isT_list_dct, isT_dict_non, isT_dict_bl, isT_dict_int, isT_dict_str, isT_dict_tup, isT_dict_lst, isT_dict_rol, isT_dict_dct, truQ_non, truQ_bl, truQ_int, truQ_tup, truQ_lst, blQ_bl, lenD_tup, lenD_lst, lenD_rol, lenD_str, tupD_tup, tupD_lst, lstD_tup, lstD_lst, lstD_rol, intD_i, intD_b, boolD_i, boolD_b, ixD_tup, ixD_lst, ixD_rol, slD_lst, slD_tup, intQ_i, appD_1, extD_1, lsQ_own, lsQ_bor, gTp_t, gsCons_c, seqQ_t, seqQ_l, seqQ_r, hideS_fz, hideS_own, hideS_bor, hideS_no, mmQ_ii, atI_0, atI_1, atI_2, List.map_cons, List.map_nil, List.replicate, List.cons_append, List.nil_append, List.append_nil, List.set, List.length_cons, List.length_nil, decide_eq_true_eq, if_true, if_false, Bool.not_true, Bool.not_false, Bool.false_eq_true, and_true, true_and, List.nodup_cons, List.not_mem_nil, not_false_eq_true, List.nodup_nil, List.mem_cons, or_false, List.getD, c1])
        exact ⟨by rw [sizeLine_eq]; omega, fin⟩
  all_goals
    (try simp only [dSeq, dIfS, dRet, dRetN, dNext, dSet, dSetO, dDrop, dCall, callQ, dCallKw, dCons, dNil, dBor, dsQ, dTup, dLst, dV, dC, slot, dOp, dUn, dCmp, dCmpT, dChain, dChainT, dTru, dAnd, dOr, dNot, dAndV, dOrV, dNotV, dIf, dIsi, dNoO, dSoO, dSl, bodyQ, endsOf, outsOf, lents, putB, lentQ, dAsg, gNm, gsNil, iSeq, iRng, DL.iRng2, iEnm, dLm, dLm0, dPut, dMm, dYes, hQ, isSub, hideE, pick_0, pick_10, pick_210, rep2, kg, dFor, dLc, wipeD, restD, dPar, ixN3_0, ixN3_1, ixN3_2, ex_some, dRaise_1, dHeard_e, List.set_cons_zero, List.set_cons_succ, rdQ_fz, rdQ_own, rdQ_at, rdS_fz, rdS_own, rdS_bor, frzQ_fz, frzQ_own, frzQ_at, frS_fz, frS_own, nmQ_s, nmS_fz, nmS_own, nmS_bor, retQ_fz, retQ_own, retQ_at, rtS_fz, rtS_own, argsOf_at, argsOf_d, argsOf_n, lnS_own, lnS_bor, lnS_fz, reS_o, reS_b, setF_d, setO_own, setO_fz, setO_at, notBor_fz, notBor_own, notBor_no, isOwn_own, isOwn_bor, addD_ii, addD_ss, addD_ll, addD_tt, subD_ii, mulD_ii, mulD_li, mulD_ti, fdivD_ii, modD_ii, powD_ii, negD_i, ltD_ii, leD_ii, gtD_ii, geD_ii, isQ_n, isQ_b, nisQ_n, isN_non, isN_bl, isN_int, isN_str, isN_tup, isN_lst, isN_rol, isN_dct, isT_int_non, isT_int_bl, isT_int_int, isT_int_str, isT_int_tup, isT_int_lst, isT_int_rol, isT_int_dct, isT_bool_non, isT_bool_bl, isT_bool_int, isT_bool_str, isT_bool_tup, isT_bool_lst, isT_bool_rol, isT_bool_dct, isT_str_non, isT_str_bl, isT_str_int, isT_str_str, isT_str_tup, isT_str_lst, isT_str_rol, isT_str_dct, isT_tuple_non, isT_tuple_bl, isT_tuple_int, isT_tuple_str, isT_tuple_tup, isT_tuple_lst, isT_tuple_rol, isT_tuple_dct, isT_list_non, isT_list_bl, isT_list_int, isT_list_str, isT_list_tup, isT_list_lst, isT_list_rol, isT_list_dct, isT_dict_non, isT_dict_bl, isT_dict_int, isT_dict_str, isT_dict_tup, isT_dict_lst, isT_dict_rol, isT_dict_dct, truQ_non, truQ_bl, truQ_int, truQ_tup, truQ_lst, blQ_bl, lenD_tup, lenD_lst, lenD_rol, lenD_str, tupD_tup, tupD_lst, lstD_tup, lstD_lst, lstD_rol, intD_i, intD_b, boolD_i, boolD_b, ixD_tup, ixD_lst, ixD_rol, slD_lst, slD_tup, intQ_i, appD_1, extD_1, lsQ_own, lsQ_bor, gTp_t, gsCons_c, seqQ_t, seqQ_l, seqQ_r, hideS_fz, hideS_own, hideS_bor, hideS_no, mmQ_ii, atI_0, atI_1, atI_2, List.map_cons, List.map_nil, List.replicate, List.cons_append, List.nil_append, List.append_nil, List.set, List.length_cons, List.length_nil, decide_eq_true_eq, if_true, if_false, Bool.not_true, Bool.not_false, Bool.false_eq_true, and_true, true_and, List.nodup_cons, List.not_mem_nil, not_false_eq_true, List.nodup_nil, List.mem_cons, or_false, List.getD, td_zc_sizes_due])
    exact ⟨by rw [sizeLine_eq]; omega, hQ⟩
def dueP (ss : List D) (d : D) : D := if isN (wwD ss d) = true then .non else .tup [.str "BadPage", wwD ss d]
theorem pw_whole (ss : List D) (i : Nat) (d : D) : ((match d with | .int _ => true | _ => false) = false ∧ pw ss i d = false) ∨ ∃ x, d = .int x := by
  cases d <;> first | exact .inl ⟨rfl, rfl⟩ | exact .inr ⟨_, rfl⟩
theorem w_zc_page_due {d : D} {ss : List D} {Q : Rv → List OC → Prop} {ED : Nat → D → Prop} (hs : Ints ss) (hss : ss.length ≤ sizeLine) (hQ : Q (.fz (dueP ss d)) []) : sp_zc_page_due [.fz (.tup ss), .fz d] Q ED := by
  refine ⟨rfl, ?_⟩
  cases d
  case tup ds =>
    (try simp only [dSeq, dIfS, dRet, dRetN, dNext, dSet, dSetO, dDrop, dCall, callQ, dCallKw, dCons, dNil, dBor, dsQ, dTup, dLst, dV, dC, slot, dOp, dUn, dCmp, dCmpT, dChain, dChainT, dTru, dAnd, dOr, dNot, dAndV, dOrV, dNotV, dIf, dIsi, dNoO, dSoO, dSl, bodyQ, endsOf, outsOf, lents, putB, lentQ, dAsg, gNm, gsNil, iSeq, iRng, DL.iRng2, iEnm, dLm, dLm0, dPut, dMm, dYes, hQ, isSub, hideE, pick_0, pick_10, pick_210, rep2, kg, dFor, dLc, wipeD, restD, dPar, ixN3_0, ixN3_1, ixN3_2, ex_some, dRaise_1, dHeard_e, List.set_cons_zero, List.set_cons_succ, rdQ_fz, rdQ_own, rdQ_at, rdS_fz, rdS_own, rdS_bor, frzQ_fz, frzQ_own, frzQ_at, frS_fz, frS_own, nmQ_s, nmS_fz, nmS_own, nmS_bor, retQ_fz, retQ_own, retQ_at, rtS_fz, rtS_own, argsOf_at, argsOf_d, argsOf_n, lnS_own, lnS_bor, lnS_fz, reS_o, reS_b, setF_d, setO_own, setO_fz, setO_at, notBor_fz, notBor_own, notBor_no, isOwn_own, isOwn_bor, addD_ii, addD_ss, addD_ll, addD_tt, subD_ii, mulD_ii, mulD_li, mulD_ti, fdivD_ii, modD_ii, powD_ii, negD_i, ltD_ii, leD_ii, gtD_ii, geD_ii, isQ_n, isQ_b, nisQ_n, isN_non, isN_bl, isN_int, isN_str, isN_tup, isN_lst, isN_rol, isN_dct, isT_int_non, isT_int_bl, isT_int_int, isT_int_str, isT_int_tup, isT_int_lst, isT_int_rol, isT_int_dct, isT_bool_non, isT_bool_bl, isT_bool_int, isT_bool_str, isT_bool_tup, isT_bool_lst, isT_bool_rol, isT_bool_dct, isT_str_non, isT_str_bl, isT_str_int, isT_str_str, isT_str_tup, isT_str_lst, isT_str_rol, isT_str_dct, isT_tuple_non, isT_tuple_bl, isT_tuple_int, isT_tuple_str, isT_tuple_tup, isT_tuple_lst, isT_tuple_rol, isT_tuple_dct, isT_list_non, isT_list_bl, isT_list_int, isT_list_str, isT_list_tup, isT_list_lst, isT_list_rol, isT_list_dct, isT_dict_non, isT_dict_bl, isT_dict_int, isT_dict_str, isT_dict_tup, isT_dict_lst, isT_dict_rol, isT_dict_dct, truQ_non, truQ_bl, truQ_int, truQ_tup, truQ_lst, blQ_bl, lenD_tup, lenD_lst, lenD_rol, lenD_str, tupD_tup, tupD_lst, lstD_tup, lstD_lst, lstD_rol, intD_i, intD_b, boolD_i, boolD_b, ixD_tup, ixD_lst, ixD_rol, slD_lst, slD_tup, intQ_i, appD_1, extD_1, lsQ_own, lsQ_bor, gTp_t, gsCons_c, seqQ_t, seqQ_l, seqQ_r, hideS_fz, hideS_own, hideS_bor, hideS_no, mmQ_ii, atI_0, atI_1, atI_2, List.map_cons, List.map_nil, List.replicate, List.cons_append, List.nil_append, List.append_nil, List.set, List.length_cons, List.length_nil, decide_eq_true_eq, if_true, if_false, Bool.not_true, Bool.not_false, Bool.false_eq_true, and_true, true_and, List.nodup_cons, List.not_mem_nil, not_false_eq_true, List.nodup_nil, List.mem_cons, or_false, List.getD, td_zc_page_due])
    refine ⟨okD_int, okD_int, ?_⟩
    by_cases h1 : ds.length = ss.length
    · have e1 : eqD (.int (ds.length : Nat)) (.int (ss.length : Nat)) = true := by rw [h1]; exact beq_self_eq_true _
      (try simp only [dSeq, dIfS, dRet, dRetN, dNext, dSet, dSetO, dDrop, dCall, callQ, dCallKw, dCons, dNil, dBor, dsQ, dTup, dLst, dV, dC, slot, dOp, dUn, dCmp, dCmpT, dChain, dChainT, dTru, dAnd, dOr, dNot, dAndV, dOrV, dNotV, dIf, dIsi, dNoO, dSoO, dSl, bodyQ, endsOf, outsOf, lents, putB, lentQ, dAsg, gNm, gsNil, iSeq, iRng, DL.iRng2, iEnm, dLm, dLm0, dPut, dMm, dYes, hQ, isSub, hideE, pick_0, pick_10, pick_210, rep2, kg, dFor, dLc, wipeD, restD, dPar, ixN3_0, ixN3_1, ixN3_2, ex_some, dRaise_1, dHeard_e, List.set_cons_zero, List.set_cons_succ, rdQ_fz, rdQ_own, rdQ_at, rdS_fz, rdS_own, rdS_bor, frzQ_fz, frzQ_own, frzQ_at, frS_fz, frS_own, nmQ_s, nmS_fz, nmS_own, nmS_bor, retQ_fz, retQ_own, retQ_at, rtS_fz, rtS_own, argsOf_at, argsOf_d, argsOf_n, lnS_own, lnS_bor, lnS_fz, reS_o, reS_b, setF_d, setO_own, setO_fz, setO_at, notBor_fz, notBor_own, notBor_no, isOwn_own, isOwn_bor, addD_ii, addD_ss, addD_ll, addD_tt, subD_ii, mulD_ii, mulD_li, mulD_ti, fdivD_ii, modD_ii, powD_ii, negD_i, ltD_ii, leD_ii, gtD_ii, geD_ii, isQ_n, isQ_b, nisQ_n, isN_non, isN_bl, isN_int, isN_str, isN_tup, isN_lst, isN_rol, isN_dct, isT_int_non, isT_int_bl, isT_int_int, isT_int_str, isT_int_tup, isT_int_lst, isT_int_rol, isT_int_dct, isT_bool_non, isT_bool_bl, isT_bool_int, isT_bool_str, isT_bool_tup, isT_bool_lst, isT_bool_rol, isT_bool_dct, isT_str_non, isT_str_bl, isT_str_int, isT_str_str, isT_str_tup, isT_str_lst, isT_str_rol, isT_str_dct, isT_tuple_non, isT_tuple_bl, isT_tuple_int, isT_tuple_str, isT_tuple_tup, isT_tuple_lst, isT_tuple_rol, isT_tuple_dct, isT_list_non, isT_list_bl, isT_list_int, isT_list_str, isT_list_tup, isT_list_lst, isT_list_rol, isT_list_dct, isT_dict_non, isT_dict_bl, isT_dict_int, isT_dict_str, isT_dict_tup, isT_dict_lst, isT_dict_rol, isT_dict_dct, truQ_non, truQ_bl, truQ_int, truQ_tup, truQ_lst, blQ_bl, lenD_tup, lenD_lst, lenD_rol, lenD_str, tupD_tup, tupD_lst, lstD_tup, lstD_lst, lstD_rol, intD_i, intD_b, boolD_i, boolD_b, ixD_tup, ixD_lst, ixD_rol, slD_lst, slD_tup, intQ_i, appD_1, extD_1, lsQ_own, lsQ_bor, gTp_t, gsCons_c, seqQ_t, seqQ_l, seqQ_r, hideS_fz, hideS_own, hideS_bor, hideS_no, mmQ_ii, atI_0, atI_1, atI_2, List.map_cons, List.map_nil, List.replicate, List.cons_append, List.nil_append, List.append_nil, List.set, List.length_cons, List.length_nil, decide_eq_true_eq, if_true, if_false, Bool.not_true, Bool.not_false, Bool.false_eq_true, and_true, true_and, List.nodup_cons, List.not_mem_nil, not_false_eq_true, List.nodup_nil, List.mem_cons, or_false, List.getD, e1])
      have hw : wwD ss (.tup ds) = firstN (pw ss) 0 ds := by dsimp only [wwD]; rw [if_pos h1]
      have hd : ds.length ≤ sizeLine := by omega
      refine ⟨lenZ hss, ?_⟩
      rw [show ((ss.length : Nat) : Int).toNat = ds.length by omega, rngD_0]
      refine ⟨by simp [wipeOk, slot, notBor], ?_⟩
      refine lcL_ind (Inv := fun rest acc η => ∃ i ys, rest = rngs i ys.length ∧ ds.drop i = ys ∧ acc ++ bads (pw ss) i ys = bads (pw ss) 0 ds ∧ acc.length ≤ i ∧ η = [.fz (.tup ss), .fz (.tup ds), .no, .no]) ?_ ?_ _ _ _ ⟨0, ds, rfl, rfl, rfl, Nat.le_refl _, by (try simp only [dSeq, dIfS, dRet, dRetN, dNext, dSet, dSetO, dDrop, dCall, callQ, dCallKw, dCons, dNil, dBor, dsQ, dTup, dLst, dV, dC, slot, dOp, dUn, dCmp, dCmpT, dChain, dChainT, dTru, dAnd, dOr, dNot, dAndV, dOrV, dNotV, dIf, dIsi, dNoO, dSoO, dSl, bodyQ, endsOf, outsOf, lents, putB, lentQ, dAsg, gNm, gsNil, iSeq, iRng, DL.iRng2, iEnm, dLm, dLm0, dPut, dMm, dYes, hQ, isSub, hideE, pick_0, pick_10, pick_210, rep2, kg, dFor, dLc, wipeD, restD, dPar, ixN3_0, ixN3_1, ixN3_2, ex_some, dRaise_1, dHeard_e, List.set_cons_zero, List.set_cons_succ, rdQ_fz, rdQ_own, rdQ_at, rdS_fz, rdS_own, rdS_bor, frzQ_fz, frzQ_own, frzQ_at, frS_fz, frS_own, nmQ_s, nmS_fz, nmS_own, nmS_bor, retQ_fz, retQ_own, retQ_at, rtS_fz, rtS_own, argsOf_at, argsOf_d, argsOf_n, lnS_own, lnS_bor, lnS_fz, reS_o, reS_b, setF_d, setO_own, setO_fz, setO_at, notBor_fz, notBor_own, notBor_no, isOwn_own, isOwn_bor, addD_ii, addD_ss, addD_ll, addD_tt, subD_ii, mulD_ii, mulD_li, mulD_ti, fdivD_ii, modD_ii, powD_ii, negD_i, ltD_ii, leD_ii, gtD_ii, geD_ii, isQ_n, isQ_b, nisQ_n, isN_non, isN_bl, isN_int, isN_str, isN_tup, isN_lst, isN_rol, isN_dct, isT_int_non, isT_int_bl, isT_int_int, isT_int_str, isT_int_tup, isT_int_lst, isT_int_rol, isT_int_dct, isT_bool_non, isT_bool_bl, isT_bool_int, isT_bool_str, isT_bool_tup, isT_bool_lst, isT_bool_rol, isT_bool_dct, isT_str_non, isT_str_bl, isT_str_int, isT_str_str, isT_str_tup, isT_str_lst, isT_str_rol, isT_str_dct, isT_tuple_non, isT_tuple_bl, isT_tuple_int, isT_tuple_str, isT_tuple_tup, isT_tuple_lst, isT_tuple_rol, isT_tuple_dct, isT_list_non, isT_list_bl, isT_list_int, isT_list_str, isT_list_tup, isT_list_lst, isT_list_rol, isT_list_dct, isT_dict_non, isT_dict_bl, isT_dict_int, isT_dict_str, isT_dict_tup, isT_dict_lst, isT_dict_rol, isT_dict_dct, truQ_non, truQ_bl, truQ_int, truQ_tup, truQ_lst, blQ_bl, lenD_tup, lenD_lst, lenD_rol, lenD_str, tupD_tup, tupD_lst, lstD_tup, lstD_lst, lstD_rol, intD_i, intD_b, boolD_i, boolD_b, ixD_tup, ixD_lst, ixD_rol, slD_lst, slD_tup, intQ_i, appD_1, extD_1, lsQ_own, lsQ_bor, gTp_t, gsCons_c, seqQ_t, seqQ_l, seqQ_r, hideS_fz, hideS_own, hideS_bor, hideS_no, mmQ_ii, atI_0, atI_1, atI_2, List.map_cons, List.map_nil, List.replicate, List.cons_append, List.nil_append, List.append_nil, List.set, List.length_cons, List.length_nil, decide_eq_true_eq, if_true, if_false, Bool.not_true, Bool.not_false, Bool.false_eq_true, and_true, true_and, List.nodup_cons, List.not_mem_nil, not_false_eq_true, List.nodup_nil, List.mem_cons, or_false, List.getD])⟩
      · rintro acc η ⟨i, ys, r1, r2, r3, r4, rfl⟩
        cases ys with
        | cons y ys => cases r1
        | nil =>
          have r3 : acc ++ [] = bads (pw ss) 0 ds := r3
          rw [List.append_nil] at r3
          subst r3
          (try simp only [dSeq, dIfS, dRet, dRetN, dNext, dSet, dSetO, dDrop, dCall, callQ, dCallKw, dCons, dNil, dBor, dsQ, dTup, dLst, dV, dC, slot, dOp, dUn, dCmp, dCmpT, dChain, dChainT, dTru, dAnd, dOr, dNot, dAndV, dOrV, dNotV, dIf, dIsi, dNoO, dSoO, dSl, bodyQ, endsOf, outsOf, lents, putB, lentQ, dAsg, gNm, gsNil, iSeq, iRng, DL.iRng2, iEnm, dLm, dLm0, dPut, dMm, dYes, hQ, isSub, hideE, pick_0, pick_10, pick_210, rep2, kg, dFor, dLc, wipeD, restD, dPar, ixN3_0, ixN3_1, ixN3_2, ex_some, dRaise_1, dHeard_e, List.set_cons_zero, List.set_cons_succ, rdQ_fz, rdQ_own, rdQ_at, rdS_fz, rdS_own, rdS_bor, frzQ_fz, frzQ_own, frzQ_at, frS_fz, frS_own, nmQ_s, nmS_fz, nmS_own, nmS_bor, retQ_fz, retQ_own, retQ_at, rtS_fz, rtS_own, argsOf_at, argsOf_d, argsOf_n, lnS_own, lnS_bor, lnS_fz, reS_o, reS_b, setF_d, setO_own, setO_fz, setO_at, notBor_fz, notBor_own, notBor_no, isOwn_own, isOwn_bor, addD_ii, addD_ss, addD_ll, addD_tt, subD_ii, mulD_ii, mulD_li, mulD_ti, fdivD_ii, modD_ii, powD_ii, negD_i, ltD_ii, leD_ii, gtD_ii, geD_ii, isQ_n, isQ_b, nisQ_n, isN_non, isN_bl, isN_int, isN_str, isN_tup, isN_lst, isN_rol, isN_dct, isT_int_non, isT_int_bl, isT_int_int, isT_int_str, isT_int_tup, isT_int_lst, isT_int_rol, isT_int_dct, isT_bool_non, isT_bool_bl, isT_bool_int, isT_bool_str, isT_bool_tup, isT_bool_lst, isT_bool_rol, isT_bool_dct, isT_str_non, isT_str_bl, isT_str_int, isT_str_str, isT_str_tup, isT_str_lst, isT_str_rol, isT_str_dct, isT_tuple_non, isT_tuple_bl, isT_tuple_int, isT_tuple_str, isT_tuple_tup, isT_tuple_lst, isT_tuple_rol, isT_tuple_dct, isT_list_non, isT_list_bl, isT_list_int, isT_list_str, isT_list_tup, isT_list_lst, isT_list_rol, isT_list_dct, isT_dict_non, isT_dict_bl, isT_dict_int, isT_dict_str, isT_dict_tup, isT_dict_lst, isT_dict_rol, isT_dict_dct, truQ_non, truQ_bl, truQ_int, truQ_tup, truQ_lst, blQ_bl, lenD_tup, lenD_lst, lenD_rol, lenD_str, tupD_tup, tupD_lst, lstD_tup, lstD_lst, lstD_rol, intD_i, intD_b, boolD_i, boolD_b, ixD_tup, ixD_lst, ixD_rol, slD_lst, slD_tup, intQ_i, appD_1, extD_1, lsQ_own, lsQ_bor, gTp_t, gsCons_c, seqQ_t, seqQ_l, seqQ_r, hideS_fz, hideS_own, hideS_bor, hideS_no, mmQ_ii, atI_0, atI_1, atI_2, List.map_cons, List.map_nil, List.replicate, List.cons_append, List.nil_append, List.append_nil, List.set, List.length_cons, List.length_nil, decide_eq_true_eq, if_true, if_false, Bool.not_true, Bool.not_false, Bool.false_eq_true, and_true, true_and, List.nodup_cons, List.not_mem_nil, not_false_eq_true, List.nodup_nil, List.mem_cons, or_false, List.getD])
          refine ⟨by simp, okD_ints (bads_ints _ _ _), okD_ints (ds := []) (by simp), ?_⟩
          rw [eqD_nil]
          dsimp only [dueP] at hQ
          rw [hw] at hQ
          rcases bads_first (pw ss) 0 ds with ⟨b1, b2⟩ | ⟨j, r, b1, b2⟩
          · rw [b1]
            rw [b2] at hQ
            (try simp only [dSeq, dIfS, dRet, dRetN, dNext, dSet, dSetO, dDrop, dCall, callQ, dCallKw, dCons, dNil, dBor, dsQ, dTup, dLst, dV, dC, slot, dOp, dUn, dCmp, dCmpT, dChain, dChainT, dTru, dAnd, dOr, dNot, dAndV, dOrV, dNotV, dIf, dIsi, dNoO, dSoO, dSl, bodyQ, endsOf, outsOf, lents, putB, lentQ, dAsg, gNm, gsNil, iSeq, iRng, DL.iRng2, iEnm, dLm, dLm0, dPut, dMm, dYes, hQ, isSub, hideE, pick_0, pick_10, pick_210, rep2, kg, dFor, dLc, wipeD, restD, dPar, ixN3_0, ixN3_1, ixN3_2, ex_some, dRaise_1, dHeard_e, List.set_cons_zero, List.set_cons_succ, rdQ_fz, rdQ_own, rdQ_at, rdS_fz, rdS_own, rdS_bor, frzQ_fz, frzQ_own, frzQ_at, frS_fz, frS_own, nmQ_s, nmS_fz, nmS_own, nmS_bor, retQ_fz, retQ_own, retQ_at, rtS_fz, rtS_own, argsOf_at, argsOf_d, argsOf_n, lnS_own, lnS_bor, lnS_fz, reS_o, reS_b, setF_d, setO_own, setO_fz, setO_at, notBor_fz, notBor_own, notBor_no, isOwn_own, isOwn_bor, addD_ii, addD_ss, addD_ll, addD_tt, subD_ii, mulD_ii, mulD_li, mulD_ti, fdivD_ii, modD_ii, powD_ii, negD_i, ltD_ii, leD_ii, gtD_ii, geD_ii, isQ_n, isQ_b, nisQ_n, isN_non, isN_bl, isN_int, isN_str, isN_tup, isN_lst, isN_rol, isN_dct, isT_int_non, isT_int_bl, isT_int_int, isT_int_str, isT_int_tup, isT_int_lst, isT_int_rol, isT_int_dct, isT_bool_non, isT_bool_bl, isT_bool_int, isT_bool_str, isT_bool_tup, isT_bool_lst, isT_bool_rol, isT_bool_dct, isT_str_non, isT_str_bl, isT_str_int, isT_str_str, isT_str_tup, isT_str_lst, isT_str_rol, isT_str_dct, isT_tuple_non, isT_tuple_bl, isT_tuple_int, isT_tuple_str, isT_tuple_tup, isT_tuple_lst, isT_tuple_rol, isT_tuple_dct, isT_list_non, isT_list_bl, isT_list_int, isT_list_str, isT_list_tup, isT_list_lst, isT_list_rol, isT_list_dct, isT_dict_non, isT_dict_bl, isT_dict_int, isT_dict_str, isT_dict_tup, isT_dict_lst, isT_dict_rol, isT_dict_dct, truQ_non, truQ_bl, truQ_int, truQ_tup, truQ_lst, blQ_bl, lenD_tup, lenD_lst, lenD_rol, lenD_str, tupD_tup, tupD_lst, lstD_tup, lstD_lst, lstD_rol, intD_i, intD_b, boolD_i, boolD_b, ixD_tup, ixD_lst, ixD_rol, slD_lst, slD_tup, intQ_i, appD_1, extD_1, lsQ_own, lsQ_bor, gTp_t, gsCons_c, seqQ_t, seqQ_l, seqQ_r, hideS_fz, hideS_own, hideS_bor, hideS_no, mmQ_ii, atI_0, atI_1, atI_2, List.map_cons, List.map_nil, List.replicate, List.cons_append, List.nil_append, List.append_nil, List.set, List.length_cons, List.length_nil, decide_eq_true_eq, if_true, if_false, Bool.not_true, Bool.not_false, Bool.false_eq_true, and_true, true_and, List.nodup_cons, List.not_mem_nil, not_false_eq_true, List.nodup_nil, List.mem_cons, or_false, List.getD, List.isEmpty_nil])
            exact hQ
          · rw [b1]
            rw [b2] at hQ
            (try simp only [dSeq, dIfS, dRet, dRetN, dNext, dSet, dSetO, dDrop, dCall, callQ, dCallKw, dCons, dNil, dBor, dsQ, dTup, dLst, dV, dC, slot, dOp, dUn, dCmp, dCmpT, dChain, dChainT, dTru, dAnd, dOr, dNot, dAndV, dOrV, dNotV, dIf, dIsi, dNoO, dSoO, dSl, bodyQ, endsOf, outsOf, lents, putB, lentQ, dAsg, gNm, gsNil, iSeq, iRng, DL.iRng2, iEnm, dLm, dLm0, dPut, dMm, dYes, hQ, isSub, hideE, pick_0, pick_10, pick_210, rep2, kg, dFor, dLc, wipeD, restD, dPar, ixN3_0, ixN3_1, ixN3_2, ex_some, dRaise_1, dHeard_e, List.set_cons_zero, List.set_cons_succ, rdQ_fz, rdQ_own, rdQ_at, rdS_fz, rdS_own, rdS_bor, frzQ_fz, frzQ_own, frzQ_at, frS_fz, frS_own, nmQ_s, nmS_fz, nmS_own, nmS_bor, retQ_fz, retQ_own, retQ_at, rtS_fz, rtS_own, argsOf_at, argsOf_d, argsOf_n, lnS_own, lnS_bor, lnS_fz, reS_o, reS_b, setF_d, setO_own, setO_fz, setO_at, notBor_fz, notBor_own, notBor_no, isOwn_own, isOwn_bor, addD_ii, addD_ss, addD_ll, addD_tt, subD_ii, mulD_ii, mulD_li, mulD_ti, fdivD_ii, modD_ii, powD_ii, negD_i, ltD_ii, leD_ii, gtD_ii, geD_ii, isQ_n, isQ_b, nisQ_n, isN_non, isN_bl, isN_int, isN_str, isN_tup, isN_lst, isN_rol, isN_dct, isT_int_non, isT_int_bl, isT_int_int, isT_int_str, isT_int_tup, isT_int_lst, isT_int_rol, isT_int_dct, isT_bool_non, isT_bool_bl, isT_bool_int, isT_bool_str, isT_bool_tup, isT_bool_lst, isT_bool_rol, isT_bool_dct, isT_str_non, isT_str_bl, isT_str_int, isT_str_str, isT_str_tup, isT_str_lst, isT_str_rol, isT_str_dct, isT_tuple_non, isT_tuple_bl, isT_tuple_int, isT_tuple_str, isT_tuple_tup, isT_tuple_lst, isT_tuple_rol, isT_tuple_dct, isT_list_non, isT_list_bl, isT_list_int, isT_list_str, isT_list_tup, isT_list_lst, isT_list_rol, isT_list_dct, isT_dict_non, isT_dict_bl, isT_dict_int, isT_dict_str, isT_dict_tup, isT_dict_lst, isT_dict_rol, isT_dict_dct, truQ_non, truQ_bl, truQ_int, truQ_tup, truQ_lst, blQ_bl, lenD_tup, lenD_lst, lenD_rol, lenD_str, tupD_tup, tupD_lst, lstD_tup, lstD_lst, lstD_rol, intD_i, intD_b, boolD_i, boolD_b, ixD_tup, ixD_lst, ixD_rol, slD_lst, slD_tup, intQ_i, appD_1, extD_1, lsQ_own, lsQ_bor, gTp_t, gsCons_c, seqQ_t, seqQ_l, seqQ_r, hideS_fz, hideS_own, hideS_bor, hideS_no, mmQ_ii, atI_0, atI_1, atI_2, List.map_cons, List.map_nil, List.replicate, List.cons_append, List.nil_append, List.append_nil, List.set, List.length_cons, List.length_nil, decide_eq_true_eq, if_true, if_false, Bool.not_true, Bool.not_false, Bool.false_eq_true, and_true, true_and, List.nodup_cons, List.not_mem_nil, not_false_eq_true, List.nodup_nil, List.mem_cons, or_false, List.getD, List.isEmpty_cons, atI_0])
            exact ⟨by rw [sizeLine_eq]; omega, hQ⟩
      · rintro d rest acc η K ⟨i, ys, r1, r2, r3, r4, rfl⟩ hK
        cases ys with
        | nil => cases r1
        | cons y ys =>
          obtain ⟨rfl, rfl⟩ := List.cons.inj r1
          have gi : ds[i]? = some y := by
            have := congrArg (fun l => l[0]?) r2
            simpa using this
          have hi : i < ds.length := (List.getElem?_eq_some_iff.mp gi).1
          have dr : ds.drop (i + 1) = ys := by
            rw [List.drop_eq_getElem_cons hi] at r2
            exact (List.cons.inj r2).2
          have acl : acc.length < sizeLine := by
            have := hd
            omega
          have ga : atI ds (i : Nat) = some y := atI_nat (by omega) (by rw [show ((i : Nat) : Int).toNat = i by omega]; exact gi)
          (try simp only [dSeq, dIfS, dRet, dRetN, dNext, dSet, dSetO, dDrop, dCall, callQ, dCallKw, dCons, dNil, dBor, dsQ, dTup, dLst, dV, dC, slot, dOp, dUn, dCmp, dCmpT, dChain, dChainT, dTru, dAnd, dOr, dNot, dAndV, dOrV, dNotV, dIf, dIsi, dNoO, dSoO, dSl, bodyQ, endsOf, outsOf, lents, putB, lentQ, dAsg, gNm, gsNil, iSeq, iRng, DL.iRng2, iEnm, dLm, dLm0, dPut, dMm, dYes, hQ, isSub, hideE, pick_0, pick_10, pick_210, rep2, kg, dFor, dLc, wipeD, restD, dPar, ixN3_0, ixN3_1, ixN3_2, ex_some, dRaise_1, dHeard_e, List.set_cons_zero, List.set_cons_succ, rdQ_fz, rdQ_own, rdQ_at, rdS_fz, rdS_own, rdS_bor, frzQ_fz, frzQ_own, frzQ_at, frS_fz, frS_own, nmQ_s, nmS_fz, nmS_own, nmS_bor, retQ_fz, retQ_own, retQ_at, rtS_fz, rtS_own, argsOf_at, argsOf_d, argsOf_n, lnS_own, lnS_bor, lnS_fz, reS_o, reS_b, setF_d, setO_own, setO_fz, setO_at, notBor_fz, notBor_own, notBor_no, isOwn_own, isOwn_bor, addD_ii, addD_ss, addD_ll, addD_tt, subD_ii, mulD_ii, mulD_li, mulD_ti, fdivD_ii, modD_ii, powD_ii, negD_i, ltD_ii, leD_ii, gtD_ii, geD_ii, isQ_n, isQ_b, nisQ_n, isN_non, isN_bl, isN_int, isN_str, isN_tup, isN_lst, isN_rol, isN_dct, isT_int_non, isT_int_bl, isT_int_int, isT_int_str, isT_int_tup, isT_int_lst, isT_int_rol, isT_int_dct, isT_bool_non, isT_bool_bl, isT_bool_int, isT_bool_str, isT_bool_tup, isT_bool_lst, isT_bool_rol, isT_bool_dct, isT_str_non, isT_str_bl, isT_str_int, isT_str_str, isT_str_tup, isT_str_lst, isT_str_rol, isT_str_dct, isT_tuple_non, isT_tuple_bl, isT_tuple_int, isT_tuple_str, isT_tuple_tup, isT_tuple_lst, isT_tuple_rol, isT_tuple_dct, isT_list_non, isT_list_bl, isT_list_int, isT_list_str, isT_list_tup, isT_list_lst, isT_list_rol, isT_list_dct, isT_dict_non, isT_dict_bl, isT_dict_int, isT_dict_str, isT_dict_tup, isT_dict_lst, isT_dict_rol, isT_dict_dct, truQ_non, truQ_bl, truQ_int, truQ_tup, truQ_lst, blQ_bl, lenD_tup, lenD_lst, lenD_rol, lenD_str, tupD_tup, tupD_lst, lstD_tup, lstD_lst, lstD_rol, intD_i, intD_b, boolD_i, boolD_b, ixD_tup, ixD_lst, ixD_rol, slD_lst, slD_tup, intQ_i, appD_1, extD_1, lsQ_own, lsQ_bor, gTp_t, gsCons_c, seqQ_t, seqQ_l, seqQ_r, hideS_fz, hideS_own, hideS_bor, hideS_no, mmQ_ii, atI_0, atI_1, atI_2, List.map_cons, List.map_nil, List.replicate, List.cons_append, List.nil_append, List.append_nil, List.set, List.length_cons, List.length_nil, decide_eq_true_eq, if_true, if_false, Bool.not_true, Bool.not_false, Bool.false_eq_true, and_true, true_and, List.nodup_cons, List.not_mem_nil, not_false_eq_true, List.nodup_nil, List.mem_cons, or_false, List.getD, ga])
          refine ⟨(by simp [lents, slot, Sl.isOwn]), w_whole ?_⟩
          have bd : ∀ (_ : pw ss i y = false), K (acc ++ [.int (i : Nat)]) [.fz (.tup ss), .fz (.tup ds), .no, .no] := fun h => hK _ _ ⟨i + 1, ys, rfl, dr, by
            rw [← r3, bads_no h, List.append_assoc]; rfl, by simp; omega, rfl⟩
          have gd : ∀ (_ : pw ss i y = true), K acc [.fz (.tup ss), .fz (.tup ds), .no, .no] := fun h => hK _ _ ⟨i + 1, ys, rfl, dr, by
            rw [← r3, bads_ok h], by omega, rfl⟩
          rcases pw_whole ss i y with ⟨w1, w2⟩ | ⟨x, rfl⟩
          · (try simp only [dSeq, dIfS, dRet, dRetN, dNext, dSet, dSetO, dDrop, dCall, callQ, dCallKw, dCons, dNil, dBor, dsQ, dTup, dLst, dV, dC, slot, dOp, dUn, dCmp, dCmpT, dChain, dChainT, dTru, dAnd, dOr, dNot, dAndV, dOrV, dNotV, dIf, dIsi, dNoO, dSoO, dSl, bodyQ, endsOf, outsOf, lents, putB, lentQ, dAsg, gNm, gsNil, iSeq, iRng, DL.iRng2, iEnm, dLm, dLm0, dPut, dMm, dYes, hQ, isSub, hideE, pick_0, pick_10, pick_210, rep2, kg, dFor, dLc, wipeD, restD, dPar, ixN3_0, ixN3_1, ixN3_2, ex_some, dRaise_1, dHeard_e, List.set_cons_zero, List.set_cons_succ, rdQ_fz, rdQ_own, rdQ_at, rdS_fz, rdS_own, rdS_bor, frzQ_fz, frzQ_own, frzQ_at, frS_fz, frS_own, nmQ_s, nmS_fz, nmS_own, nmS_bor, retQ_fz, retQ_own, retQ_at, rtS_fz, rtS_own, argsOf_at, argsOf_d, argsOf_n, lnS_own, lnS_bor, lnS_fz, reS_o, reS_b, setF_d, setO_own, setO_fz, setO_at, notBor_fz, notBor_own, notBor_no, isOwn_own, isOwn_bor, addD_ii, addD_ss, addD_ll, addD_tt, subD_ii, mulD_ii, mulD_li, mulD_ti, fdivD_ii, modD_ii, powD_ii, negD_i, ltD_ii, leD_ii, gtD_ii, geD_ii, isQ_n, isQ_b, nisQ_n, isN_non, isN_bl, isN_int, isN_str, isN_tup, isN_lst, isN_rol, isN_dct, isT_int_non, isT_int_bl, isT_int_int, isT_int_str, isT_int_tup, isT_int_lst, isT_int_rol, isT_int_dct, isT_bool_non, isT_bool_bl, isT_bool_int, isT_bool_str, isT_bool_tup, isT_bool_lst, isT_bool_rol, isT_bool_dct, isT_str_non, isT_str_bl, isT_str_int, isT_str_str, isT_str_tup, isT_str_lst, isT_str_rol, isT_str_dct, isT_tuple_non, isT_tuple_bl, isT_tuple_int, isT_tuple_str, isT_tuple_tup, isT_tuple_lst, isT_tuple_rol, isT_tuple_dct, isT_list_non, isT_list_bl, isT_list_int, isT_list_str, isT_list_tup, isT_list_lst, isT_list_rol, isT_list_dct, isT_dict_non, isT_dict_bl, isT_dict_int, isT_dict_str, isT_dict_tup, isT_dict_lst, isT_dict_rol, isT_dict_dct, truQ_non, truQ_bl, truQ_int, truQ_tup, truQ_lst, blQ_bl, lenD_tup, lenD_lst, lenD_rol, lenD_str, tupD_tup, tupD_lst, lstD_tup, lstD_lst, lstD_rol, intD_i, intD_b, boolD_i, boolD_b, ixD_tup, ixD_lst, ixD_rol, slD_lst, slD_tup, intQ_i, appD_1, extD_1, lsQ_own, lsQ_bor, gTp_t, gsCons_c, seqQ_t, seqQ_l, seqQ_r, hideS_fz, hideS_own, hideS_bor, hideS_no, mmQ_ii, atI_0, atI_1, atI_2, List.map_cons, List.map_nil, List.replicate, List.cons_append, List.nil_append, List.append_nil, List.set, List.length_cons, List.length_nil, decide_eq_true_eq, if_true, if_false, Bool.not_true, Bool.not_false, Bool.false_eq_true, and_true, true_and, List.nodup_cons, List.not_mem_nil, not_false_eq_true, List.nodup_nil, List.mem_cons, or_false, List.getD, w1])
            exact ⟨acl, by simp [wipeOk, slot, notBor], bd w2⟩
          · have gs : atI ss (i : Nat) = some (.int (szA ss i)) := atI_nat (by omega) (by rw [show ((i : Nat) : Int).toNat = i by omega]; exact hs.get (by omega))
            have c3 : ∀ z : Int, (x ≤ z - 1) = (x < z) := fun z => by apply propext; omega
            (try simp only [dSeq, dIfS, dRet, dRetN, dNext, dSet, dSetO, dDrop, dCall, callQ, dCallKw, dCons, dNil, dBor, dsQ, dTup, dLst, dV, dC, slot, dOp, dUn, dCmp, dCmpT, dChain, dChainT, dTru, dAnd, dOr, dNot, dAndV, dOrV, dNotV, dIf, dIsi, dNoO, dSoO, dSl, bodyQ, endsOf, outsOf, lents, putB, lentQ, dAsg, gNm, gsNil, iSeq, iRng, DL.iRng2, iEnm, dLm, dLm0, dPut, dMm, dYes, hQ, isSub, hideE, pick_0, pick_10, pick_210, rep2, kg, dFor, dLc, wipeD, restD, dPar, ixN3_0, ixN3_1, ixN3_2, ex_some, dRaise_1, dHeard_e, List.set_cons_zero, List.set_cons_succ, rdQ_fz, rdQ_own, rdQ_at, rdS_fz, rdS_own, rdS_bor, frzQ_fz, frzQ_own, frzQ_at, frS_fz, frS_own, nmQ_s, nmS_fz, nmS_own, nmS_bor, retQ_fz, retQ_own, retQ_at, rtS_fz, rtS_own, argsOf_at, argsOf_d, argsOf_n, lnS_own, lnS_bor, lnS_fz, reS_o, reS_b, setF_d, setO_own, setO_fz, setO_at, notBor_fz, notBor_own, notBor_no, isOwn_own, isOwn_bor, addD_ii, addD_ss, addD_ll, addD_tt, subD_ii, mulD_ii, mulD_li, mulD_ti, fdivD_ii, modD_ii, powD_ii, negD_i, ltD_ii, leD_ii, gtD_ii, geD_ii, isQ_n, isQ_b, nisQ_n, isN_non, isN_bl, isN_int, isN_str, isN_tup, isN_lst, isN_rol, isN_dct, isT_int_non, isT_int_bl, isT_int_int, isT_int_str, isT_int_tup, isT_int_lst, isT_int_rol, isT_int_dct, isT_bool_non, isT_bool_bl, isT_bool_int, isT_bool_str, isT_bool_tup, isT_bool_lst, isT_bool_rol, isT_bool_dct, isT_str_non, isT_str_bl, isT_str_int, isT_str_str, isT_str_tup, isT_str_lst, isT_str_rol, isT_str_dct, isT_tuple_non, isT_tuple_bl, isT_tuple_int, isT_tuple_str, isT_tuple_tup, isT_tuple_lst, isT_tuple_rol, isT_tuple_dct, isT_list_non, isT_list_bl, isT_list_int, isT_list_str, isT_list_tup, isT_list_lst, isT_list_rol, isT_list_dct, isT_dict_non, isT_dict_bl, isT_dict_int, isT_dict_str, isT_dict_tup, isT_dict_lst, isT_dict_rol, isT_dict_dct, truQ_non, truQ_bl, truQ_int, truQ_tup, truQ_lst, blQ_bl, lenD_tup, lenD_lst, lenD_rol, lenD_str, tupD_tup, tupD_lst, lstD_tup, lstD_lst, lstD_rol, intD_i, intD_b, boolD_i, boolD_b, ixD_tup, ixD_lst, ixD_rol, slD_lst, slD_tup, intQ_i, appD_1, extD_1, lsQ_own, lsQ_bor, gTp_t, gsCons_c, seqQ_t, seqQ_l, seqQ_r, hideS_fz, hideS_own, hideS_bor, hideS_no, mmQ_ii, atI_0, atI_1, atI_2, List.map_cons, List.map_nil, List.replicate, List.cons_append, List.nil_append, List.append_nil, List.set, List.length_cons, List.length_nil, decide_eq_true_eq, if_true, if_false, Bool.not_true, Bool.not_false, Bool.false_eq_true, and_true, true_and, List.nodup_cons, List.not_mem_nil, not_false_eq_true, List.nodup_nil, List.mem_cons, or_false, List.getD, ga])
            by_cases c1 : (0 : Int) ≤ x
            · (try simp only [dSeq, dIfS, dRet, dRetN, dNext, dSet, dSetO, dDrop, dCall, callQ, dCallKw, dCons, dNil, dBor, dsQ, dTup, dLst, dV, dC, slot, dOp, dUn, dCmp, dCmpT, dChain, dChainT, dTru, dAnd, dOr, dNot, dAndV, dOrV, dNotV, dIf, dIsi, dNoO, dSoO, dSl, bodyQ, endsOf, outsOf, lents, putB, lentQ, dAsg, gNm, gsNil, iSeq, iRng, DL.iRng2, iEnm, dLm, dLm0, dPut, dMm, dYes, hQ, isSub, hideE, pick_0, pick_10, pick_210, rep2, kg, dFor, dLc, wipeD, restD, dPar, ixN3_0, ixN3_1, ixN3_2, ex_some, dRaise_1, dHeard_e, List.set_cons_zero, List.set_cons_succ, rdQ_fz, rdQ_own, rdQ_at, rdS_fz, rdS_own, rdS_bor, frzQ_fz, frzQ_own, frzQ_at, frS_fz, frS_own, nmQ_s, nmS_fz, nmS_own, nmS_bor, retQ_fz, retQ_own, retQ_at, rtS_fz, rtS_own, argsOf_at, argsOf_d, argsOf_n, lnS_own, lnS_bor, lnS_fz, reS_o, reS_b, setF_d, setO_own, setO_fz, setO_at, notBor_fz, notBor_own, notBor_no, isOwn_own, isOwn_bor, addD_ii, addD_ss, addD_ll, addD_tt, subD_ii, mulD_ii, mulD_li, mulD_ti, fdivD_ii, modD_ii, powD_ii, negD_i, ltD_ii, leD_ii, gtD_ii, geD_ii, isQ_n, isQ_b, nisQ_n, isN_non, isN_bl, isN_int, isN_str, isN_tup, isN_lst, isN_rol, isN_dct, isT_int_non, isT_int_bl, isT_int_int, isT_int_str, isT_int_tup, isT_int_lst, isT_int_rol, isT_int_dct, isT_bool_non, isT_bool_bl, isT_bool_int, isT_bool_str, isT_bool_tup, isT_bool_lst, isT_bool_rol, isT_bool_dct, isT_str_non, isT_str_bl, isT_str_int, isT_str_str, isT_str_tup, isT_str_lst, isT_str_rol, isT_str_dct, isT_tuple_non, isT_tuple_bl, isT_tuple_int, isT_tuple_str, isT_tuple_tup, isT_tuple_lst, isT_tuple_rol, isT_tuple_dct, isT_list_non, isT_list_bl, isT_list_int, isT_list_str, isT_list_tup, isT_list_lst, isT_list_rol, isT_list_dct, isT_dict_non, isT_dict_bl, isT_dict_int, isT_dict_str, isT_dict_tup, isT_dict_lst, isT_dict_rol, isT_dict_dct, truQ_non, truQ_bl, truQ_int, truQ_tup, truQ_lst, blQ_bl, lenD_tup, lenD_lst, lenD_rol, lenD_str, tupD_tup, tupD_lst, lstD_tup, lstD_lst, lstD_rol, intD_i, intD_b, boolD_i, boolD_b, ixD_tup, ixD_lst, ixD_rol, slD_lst, slD_tup, intQ_i, appD_1, extD_1, lsQ_own, lsQ_bor, gTp_t, gsCons_c, seqQ_t, seqQ_l, seqQ_r, hideS_fz, hideS_own, hideS_bor, hideS_no, mmQ_ii, atI_0, atI_1, atI_2, List.map_cons, List.map_nil, List.replicate, List.cons_append, List.nil_append, List.append_nil, List.set, List.length_cons, List.length_nil, decide_eq_true_eq, if_true, if_false, Bool.not_true, Bool.not_false, Bool.false_eq_true, and_true, true_and, List.nodup_cons, List.not_mem_nil, not_false_eq_true, List.nodup_nil, List.mem_cons, or_false, List.getD, c1, ga, gs])
              by_cases c2 : x < szA ss i
              · (try simp only [dSeq, dIfS, dRet, dRetN, dNext, dSet, dSetO, dDrop, dCall, callQ, dCallKw, dCons, dNil, dBor, dsQ, dTup, dLst, dV, dC, slot, dOp, dUn, dCmp, dCmpT, dChain, dChainT, dTru, dAnd, dOr, dNot, dAndV, dOrV, dNotV, dIf, dIsi, dNoO, dSoO, dSl, bodyQ, endsOf, outsOf, lents, putB, lentQ, dAsg, gNm, gsNil, iSeq, iRng, DL.iRng2, iEnm, dLm, dLm0, dPut, dMm, dYes, hQ, isSub, hideE, pick_0, pick_10, pick_210, rep2, kg, dFor, dLc, wipeD, restD, dPar, ixN3_0, ixN3_1, ixN3_2, ex_some, dRaise_1, dHeard_e, List.set_cons_zero, List.set_cons_succ, rdQ_fz, rdQ_own, rdQ_at, rdS_fz, rdS_own, rdS_bor, frzQ_fz, frzQ_own, frzQ_at, frS_fz, frS_own, nmQ_s, nmS_fz, nmS_own, nmS_bor, retQ_fz, retQ_own, retQ_at, rtS_fz, rtS_own, argsOf_at, argsOf_d, argsOf_n, lnS_own, lnS_bor, lnS_fz, reS_o, reS_b, setF_d, setO_own, setO_fz, setO_at, notBor_fz, notBor_own, notBor_no, isOwn_own, isOwn_bor, addD_ii, addD_ss, addD_ll, addD_tt, subD_ii, mulD_ii, mulD_li, mulD_ti, fdivD_ii, modD_ii, powD_ii, negD_i, ltD_ii, leD_ii, gtD_ii, geD_ii, isQ_n, isQ_b, nisQ_n, isN_non, isN_bl, isN_int, isN_str, isN_tup, isN_lst, isN_rol, isN_dct, isT_int_non, isT_int_bl, isT_int_int, isT_int_str, isT_int_tup, isT_int_lst, isT_int_rol, isT_int_dct, isT_bool_non, isT_bool_bl, isT_bool_int, isT_bool_str, isT_bool_tup, isT_bool_lst, isT_bool_rol, isT_bool_dct, isT_str_non, isT_str_bl, isT_str_int, isT_str_str, isT_str_tup, isT_str_lst, isT_str_rol, isT_str_dct, isT_tuple_non, isT_tuple_bl, isT_tuple_int, isT_tuple_str, isT_tuple_tup, isT_tuple_lst, isT_tuple_rol, isT_tuple_dct, isT_list_non, isT_list_bl, isT_list_int, isT_list_str, isT_list_tup, isT_list_lst, isT_list_rol, isT_list_dct, isT_dict_non, isT_dict_bl, isT_dict_int, isT_dict_str, isT_dict_tup, isT_dict_lst, isT_dict_rol, isT_dict_dct, truQ_non, truQ_bl, truQ_int, truQ_tup, truQ_lst, blQ_bl, lenD_tup, lenD_lst, lenD_rol, lenD_str, tupD_tup, tupD_lst, lstD_tup, lstD_lst, lstD_rol, intD_i, intD_b, boolD_i, boolD_b, ixD_tup, ixD_lst, ixD_rol, slD_lst, slD_tup, intQ_i, appD_1, extD_1, lsQ_own, lsQ_bor, gTp_t, gsCons_c, seqQ_t, seqQ_l, seqQ_r, hideS_fz, hideS_own, hideS_bor, hideS_no, mmQ_ii, atI_0, atI_1, atI_2, List.map_cons, List.map_nil, List.replicate, List.cons_append, List.nil_append, List.append_nil, List.set, List.length_cons, List.length_nil, decide_eq_true_eq, if_true, if_false, Bool.not_true, Bool.not_false, Bool.false_eq_true, and_true, true_and, List.nodup_cons, List.not_mem_nil, not_false_eq_true, List.nodup_nil, List.mem_cons, or_false, List.getD, c2, decide_true])
                exact ⟨by simp [wipeOk, slot, notBor], gd (by simp [pw, betw, c1, c2, c3])⟩
              · (try simp only [dSeq, dIfS, dRet, dRetN, dNext, dSet, dSetO, dDrop, dCall, callQ, dCallKw, dCons, dNil, dBor, dsQ, dTup, dLst, dV, dC, slot, dOp, dUn, dCmp, dCmpT, dChain, dChainT, dTru, dAnd, dOr, dNot, dAndV, dOrV, dNotV, dIf, dIsi, dNoO, dSoO, dSl, bodyQ, endsOf, outsOf, lents, putB, lentQ, dAsg, gNm, gsNil, iSeq, iRng, DL.iRng2, iEnm, dLm, dLm0, dPut, dMm, dYes, hQ, isSub, hideE, pick_0, pick_10, pick_210, rep2, kg, dFor, dLc, wipeD, restD, dPar, ixN3_0, ixN3_1, ixN3_2, ex_some, dRaise_1, dHeard_e, List.set_cons_zero, List.set_cons_succ, rdQ_fz, rdQ_own, rdQ_at, rdS_fz, rdS_own, rdS_bor, frzQ_fz, frzQ_own, frzQ_at, frS_fz, frS_own, nmQ_s, nmS_fz, nmS_own, nmS_bor, retQ_fz, retQ_own, retQ_at, rtS_fz, rtS_own, argsOf_at, argsOf_d, argsOf_n, lnS_own, lnS_bor, lnS_fz, reS_o, reS_b, setF_d, setO_own, setO_fz, setO_at, notBor_fz, notBor_own, notBor_no, isOwn_own, isOwn_bor, addD_ii, addD_ss, addD_ll, addD_tt, subD_ii, mulD_ii, mulD_li, mulD_ti, fdivD_ii, modD_ii, powD_ii, negD_i, ltD_ii, leD_ii, gtD_ii, geD_ii, isQ_n, isQ_b, nisQ_n, isN_non, isN_bl, isN_int, isN_str, isN_tup, isN_lst, isN_rol, isN_dct, isT_int_non, isT_int_bl, isT_int_int, isT_int_str, isT_int_tup, isT_int_lst, isT_int_rol, isT_int_dct, isT_bool_non, isT_bool_bl, isT_bool_int, isT_bool_str, isT_bool_tup, isT_bool_lst, isT_bool_rol, isT_bool_dct, isT_str_non, isT_str_bl, isT_str_int, isT_str_str, isT_str_tup, isT_str_lst, isT_str_rol, isT_str_dct, isT_tuple_non, isT_tuple_bl, isT_tuple_int, isT_tuple_str, isT_tuple_tup, isT_tuple_lst, isT_tuple_rol, isT_tuple_dct, isT_list_non, isT_list_bl, isT_list_int, isT_list_str, isT_list_tup, isT_list_lst, isT_list_rol, isT_list_dct, isT_dict_non, isT_dict_bl, isT_dict_int, isT_dict_str, isT_dict_tup, isT_dict_lst, isT_dict_rol, isT_dict_dct, truQ_non, truQ_bl, truQ_int, truQ_tup, truQ_lst, blQ_bl, lenD_tup, lenD_lst, lenD_rol, lenD_str, tupD_tup, tupD_lst, lstD_tup, lstD_lst, lstD_rol, intD_i, intD_b, boolD_i, boolD_b, ixD_tup, ixD_lst, ixD_rol, slD_lst, slD_tup, intQ_i, appD_1, extD_1, lsQ_own, lsQ_bor, gTp_t, gsCons_c, seqQ_t, seqQ_l, seqQ_r, hideS_fz, hideS_own, hideS_bor, hideS_no, mmQ_ii, atI_0, atI_1, atI_2, List.map_cons, List.map_nil, List.replicate, List.cons_append, List.nil_append, List.append_nil, List.set, List.length_cons, List.length_nil, decide_eq_true_eq, if_true, if_false, Bool.not_true, Bool.not_false, Bool.false_eq_true, and_true, true_and, List.nodup_cons, List.not_mem_nil, not_false_eq_true, List.nodup_nil, List.mem_cons, or_false, List.getD, c2, decide_false])
                exact ⟨acl, by simp [wipeOk, slot, notBor], bd (by simp [pw, betw, c2, c3])⟩
            · (try simp only [dSeq, dIfS, dRet, dRetN, dNext, dSet, dSetO, dDrop, dCall, callQ, dCallKw, dCons, dNil, dBor, dsQ, dTup, dLst, dV, dC, slot, dOp, dUn, dCmp, dCmpT, dChain, dChainT, dTru, dAnd, dOr, dNot, dAndV, dOrV, dNotV, dIf, dIsi, dNoO, dSoO, dSl, bodyQ, endsOf, outsOf, lents, putB, lentQ, dAsg, gNm, gsNil, iSeq, iRng, DL.iRng2, iEnm, dLm, dLm0, dPut, dMm, dYes, hQ, isSub, hideE, pick_0, pick_10, pick_210, rep2, kg, dFor, dLc, wipeD, restD, dPar, ixN3_0, ixN3_1, ixN3_2, ex_some, dRaise_1, dHeard_e, List.set_cons_zero, List.set_cons_succ, rdQ_fz, rdQ_own, rdQ_at, rdS_fz, rdS_own, rdS_bor, frzQ_fz, frzQ_own, frzQ_at, frS_fz, frS_own, nmQ_s, nmS_fz, nmS_own, nmS_bor, retQ_fz, retQ_own, retQ_at, rtS_fz, rtS_own, argsOf_at, argsOf_d, argsOf_n, lnS_own, lnS_bor, lnS_fz, reS_o, reS_b, setF_d, setO_own, setO_fz, setO_at, notBor_fz, notBor_own, notBor_no, isOwn_own, isOwn_bor, addD_ii, addD_ss, addD_ll, addD_tt, subD_ii, mulD_ii, mulD_li, mulD_ti, fdivD_ii, modD_ii, powD_ii, negD_i, ltD_ii, leD_ii, gtD_ii, geD_ii, isQ_n, isQ_b, nisQ_n, isN_non, isN_bl, isN_int, isN_str, isN_tup, isN_lst, isN_rol, isN_dct, isT_int_non, isT_int_bl, isT_int_int, isT_int_str, isT_int_tup, isT_int_lst, isT_int_rol, isT_int_dct, isT_bool_non, isT_bool_bl, isT_bool_int, isT_bool_str, isT_bool_tup, isT_bool_lst, isT_bool_rol, isT_bool_dct, isT_str_non, isT_str_bl, isT_str_int, isT_str_str, isT_str_tup, isT_str_lst, isT_str_rol, isT_str_dct, isT_tuple_non, isT_tuple_bl, isT_tuple_int, isT_tuple_str, isT_tuple_tup, isT_tuple_lst, isT_tuple_rol, isT_tuple_dct, isT_list_non, isT_list_bl, isT_list_int, isT_list_str, isT_list_tup, isT_list_lst, isT_list_rol, isT_list_dct, isT_dict_non, isT_dict_bl, isT_dict_int, isT_dict_str, isT_dict_tup, isT_dict_lst, isT_dict_rol, isT_dict_dct, truQ_non, truQ_bl, truQ_int, truQ_tup, truQ_lst, blQ_bl, lenD_tup, lenD_lst, lenD_rol, lenD_str, tupD_tup, tupD_lst, lstD_tup, lstD_lst, lstD_rol, intD_i, intD_b, boolD_i, boolD_b, ixD_tup, ixD_lst, ixD_rol, slD_lst, slD_tup, intQ_i, appD_1, extD_1, lsQ_own, lsQ_bor, gTp_t, gsCons_c, seqQ_t, seqQ_l, seqQ_r, hideS_fz, hideS_own, hideS_bor, hideS_no, mmQ_ii, atI_0, atI_1, atI_2, List.map_cons, List.map_nil, List.replicate, List.cons_append, List.nil_append, List.append_nil, List.set, List.length_cons, List.length_nil, decide_eq_true_eq, if_true, if_false, Bool.not_true, Bool.not_false, Bool.false_eq_true, and_true, true_and, List.nodup_cons, List.not_mem_nil, not_false_eq_true, List.nodup_nil, List.mem_cons, or_false, List.getD, c1])
              exact ⟨acl, by simp [wipeOk, slot, notBor], bd (by simp [pw, betw, c1])⟩
    · have e1 : eqD (.int (ds.length : Nat)) (.int (ss.length : Nat)) = false := by
        rw [eqD_int]
        simp; omega
      have hw : wwD ss (.tup ds) = .int (-1) := by dsimp only [wwD]; rw [if_neg h1]
      dsimp only [dueP] at hQ
      rw [hw] at hQ
      have fin : Q (.fz (.tup [.str "BadPage", .int (-1)])) [] := hQ
      (try simp only [dSeq, dIfS, dRet, dRetN, dNext, dSet, dSetO, dDrop, dCall, callQ, dCallKw, dCons, dNil, dBor, dsQ, dTup, dLst, dV, dC, slot, dOp, dUn, dCmp, dCmpT, dChain, dChainT, dTru, dAnd, dOr, dNot, dAndV, dOrV, dNotV, dIf, dIsi, dNoO, dSoO, dSl, bodyQ, endsOf, outsOf, lents, putB, lentQ, dAsg, gNm, gsNil, iSeq, iRng, DL.iRng2, iEnm, dLm, dLm0, dPut, dMm, dYes, hQ, isSub, hideE, pick_0, pick_10, pick_210, rep2, kg, dFor, dLc, wipeD, restD, dPar, ixN3_0, ixN3_1, ixN3_2, ex_some, dRaise_1, dHeard_e, List.set_cons_zero, List.set_cons_succ, rdQ_fz, rdQ_own, rdQ_at, rdS_fz, rdS_own, rdS_bor, frzQ_fz, frzQ_own, frzQ_at, frS_fz, frS_own, nmQ_s, nmS_fz, nmS_own, nmS_bor, retQ_fz, retQ_own, retQ_at, rtS_fz, rtS_own, argsOf_at, argsOf_d, argsOf_n, lnS_own, lnS_bor, lnS_fz, reS_o, reS_b, setF_d, setO_own, setO_fz, setO_at, notBor_fz, notBor_own, notBor_no, isOwn_own, isOwn_bor, addD_ii, addD_ss, addD_ll, addD_tt, subD_ii, mulD_ii, mulD_li, mulD_ti, fdivD_ii, modD_ii, powD_ii, negD_i, ltD_ii, leD_ii, gtD_ii, geD_ii, isQ_n, isQ_b, nisQ_n, isN_non, isN_bl, isN_int, isN_str, isN_tup, isN_lst, isN_rol, isN_dct, isT_int_non, isT_int_bl, isT_int_int, isT_int_str, isT_int_tup, isT_int_lst, isT_int_rol, isT_int_dct, isT_bool_non, isT_bool_bl, isT_bool_int, isT_bool_str, isT_bool_tup, isT_bool_lst, isT_bool_rol, isT_bool_dct, isT_str_non, isT_str_bl, isT_str_int, isT_str_str, isT_str_tup, isT_str_lst, isT_str_rol, isT_str_dct, isT_tuple_non, isT_tuple_bl, isT_tuple_int, isT_tuple_str, isT_tuple_tup, isT_tuple_lst, isT_tuple_rol, isT_tuple_dct, isT_list_non, isT_list_bl, isT_list_int, isT_list_str, isT_list_tup, isT_list_lst, isT_list_rol, isT_list_dct, isT_dict_non, isT_dict_bl, isT_dict_int, isT_dict_str, isT_dict_tup, isT_dict_lst, isT_dict_rol, isT_dict_dct, truQ_non, truQ_bl, truQ_int, truQ_tup, truQ_lst, blQ_bl, lenD_tup, lenD_lst, lenD_rol, lenD_str, tupD_tup, tupD_lst, lstD_tup, lstD_lst, lstD_rol, intD_i, intD_b, boolD_i, boolD_b, ixD_tup, ixD_lst, ixD_rol, slD_lst, slD_tup, intQ_i, appD_1, extD_1, lsQ_own, lsQ_bor, gTp_t, gsCons_c, seqQ_t, seqQ_l, seqQ_r, hideS_fz, hideS_own, hideS_bor, hideS_no, mmQ_ii, atI_0, atI_1, atI_2, List.map_cons, List.map_nil, List.replicate, List.cons_append, List.nil_append, List.append_nil, List.set, List.length_cons, List.length_nil, decide_eq_true_eq, if_true, if_false, Bool.not_true, Bool.not_false, Bool.false_eq_true, and_true, true_and, List.nodup_cons, List.not_mem_nil, not_false_eq_true, List.nodup_nil, List.mem_cons, or_false, List.getD, e1])
      exact ⟨by rw [sizeLine_eq]; omega, fin⟩
  all_goals
    (try simp only [dSeq, dIfS, dRet, dRetN, dNext, dSet, dSetO, dDrop, dCall, callQ, dCallKw, dCons, dNil, dBor, dsQ, dTup, dLst, dV, dC, slot, dOp, dUn, dCmp, dCmpT, dChain, dChainT, dTru, dAnd, dOr, dNot, dAndV, dOrV, dNotV, dIf, dIsi, dNoO, dSoO, dSl, bodyQ, endsOf, outsOf, lents, putB, lentQ, dAsg, gNm, gsNil, iSeq, iRng, DL.iRng2, iEnm, dLm, dLm0, dPut, dMm, dYes, hQ, isSub, hideE, pick_0, pick_10, pick_210, rep2, kg, dFor, dLc, wipeD, restD, dPar, ixN3_0, ixN3_1, ixN3_2, ex_some, dRaise_1, dHeard_e, List.set_cons_zero, List.set_cons_succ, rdQ_fz, rdQ_own, rdQ_at, rdS_fz, rdS_own, rdS_bor, frzQ_fz, frzQ_own, frzQ_at, frS_fz, frS_own, nmQ_s, nmS_fz, nmS_own, nmS_bor, retQ_fz, retQ_own, retQ_at, rtS_fz, rtS_own, argsOf_at, argsOf_d, argsOf_n, lnS_own, lnS_bor, lnS_fz, reS_o, reS_b, setF_d, setO_own, setO_fz, setO_at, notBor_fz, notBor_own, notBor_no, isOwn_own, isOwn_bor, addD_ii, addD_ss, addD_ll, addD_tt, subD_ii, mulD_ii, mulD_li, mulD_ti, fdivD_ii, modD_ii, powD_ii, negD_i, ltD_ii, leD_ii, gtD_ii, geD_ii, isQ_n, isQ_b, nisQ_n, isN_non, isN_bl, isN_int, isN_str, isN_tup, isN_lst, isN_rol, isN_dct, isT_int_non, isT_int_bl, isT_int_int, isT_int_str, isT_int_tup, isT_int_lst, isT_int_rol, isT_int_dct, isT_bool_non, isT_bool_bl, isT_bool_int, isT_bool_str, isT_bool_tup, isT_bool_lst, isT_bool_rol, isT_bool_dct, isT_str_non, isT_str_bl, isT_str_int, isT_str_str, isT_str_tup, isT_str_lst, isT_str_rol, isT_str_dct, isT_tuple_non, isT_tuple_bl, isT_tuple_int, isT_tuple_str, isT_tuple_tup, isT_tuple_lst, isT_tuple_rol, isT_tuple_dct, isT_list_non, isT_list_bl, isT_list_int, isT_list_str, isT_list_tup, isT_list_lst, isT_list_rol, isT_list_dct, isT_dict_non, isT_dict_bl, isT_dict_int, isT_dict_str, isT_dict_tup, isT_dict_lst, isT_dict_rol, isT_dict_dct, truQ_non, truQ_bl, truQ_int, truQ_tup, truQ_lst, blQ_bl, lenD_tup, lenD_lst, lenD_rol, lenD_str, tupD_tup, tupD_lst, lstD_tup, lstD_lst, lstD_rol, intD_i, intD_b, boolD_i, boolD_b, ixD_tup, ixD_lst, ixD_rol, slD_lst, slD_tup, intQ_i, appD_1, extD_1, lsQ_own, lsQ_bor, gTp_t, gsCons_c, seqQ_t, seqQ_l, seqQ_r, hideS_fz, hideS_own, hideS_bor, hideS_no, mmQ_ii, atI_0, atI_1, atI_2, List.map_cons, List.map_nil, List.replicate, List.cons_append, List.nil_append, List.append_nil, List.set, List.length_cons, List.length_nil, decide_eq_true_eq, if_true, if_false, Bool.not_true, Bool.not_false, Bool.false_eq_true, and_true, true_and, List.nodup_cons, List.not_mem_nil, not_false_eq_true, List.nodup_nil, List.mem_cons, or_false, List.getD, td_zc_page_due])
    exact ⟨by rw [sizeLine_eq]; omega, hQ⟩
theorem same_seq {k : Nat} {d : D} {ds : List D} (ih : ∀ e ∈ ds, ∀ Q ED, Q (.fz (.bl true)) [] → sp_yq_same k [.fz e, .fz e] Q ED) (hd : d = .tup ds ∨ d = .lst ds) (g : DTG) (hg : g = gNm 2) {Dn : DEnds} (hn : ∀ s, Dn.nx [.fz d, .fz d, s]) :
    ∀ i (ys : List D) s, ds.drop i = ys → notBor s = true → forL g (dIfS (dNot (dTru (dCall (sp_yq_same k) ED0 (dCons (dOp ixD (dV 0) (dV 2)) (dCons (dOp ixD (dV 1) (dV 2)) dNil))))) (dRet (dC (.bl false))) dNext) Dn (rngs i ys.length) [.fz d, .fz d, s]
  | i, [], s, _, _ => hn s
  | i, y :: ys, s, hy, hb => by
    have gi : ds[i]? = some y := by
      have := congrArg (fun l => l[0]?) hy
      simpa using this
    have hi : i < ds.length := (List.getElem?_eq_some_iff.mp gi).1
    have dr : ds.drop (i + 1) = ys := by
      rw [List.drop_eq_getElem_cons hi] at hy
      exact (List.cons.inj hy).2
    have ga : atI ds (i : Nat) = some y := atI_nat (by omega) (by rw [show ((i : Nat) : Int).toNat = i by omega]; exact gi)
    have nxt := same_seq ih hd g hg hn (i + 1) ys (.fz (.int (i : Nat))) dr rfl
    subst hg
    show gNm 2 (.int (i : Nat)) [.fz d, .fz d, s] _
    rcases hd with rfl | rfl <;>
    · (try simp only [dSeq, dIfS, dRet, dRetN, dNext, dSet, dSetO, dDrop, dCall, callQ, dCallKw, dCons, dNil, dBor, dsQ, dTup, dLst, dV, dC, slot, dOp, dUn, dCmp, dCmpT, dChain, dChainT, dTru, dAnd, dOr, dNot, dAndV, dOrV, dNotV, dIf, dIsi, dNoO, dSoO, dSl, bodyQ, endsOf, outsOf, lents, putB, lentQ, dAsg, gNm, gsNil, iSeq, iRng, DL.iRng2, iEnm, dLm, dLm0, dPut, dMm, dYes, hQ, isSub, hideE, pick_0, pick_10, pick_210, rep2, kg, dFor, dLc, wipeD, restD, dPar, ixN3_0, ixN3_1, ixN3_2, ex_some, dRaise_1, dHeard_e, List.set_cons_zero, List.set_cons_succ, rdQ_fz, rdQ_own, rdQ_at, rdS_fz, rdS_own, rdS_bor, frzQ_fz, frzQ_own, frzQ_at, frS_fz, frS_own, nmQ_s, nmS_fz, nmS_own, nmS_bor, retQ_fz, retQ_own, retQ_at, rtS_fz, rtS_own, argsOf_at, argsOf_d, argsOf_n, lnS_own, lnS_bor, lnS_fz, reS_o, reS_b, setF_d, setO_own, setO_fz, setO_at, notBor_fz, notBor_own, notBor_no, isOwn_own, isOwn_bor, addD_ii, addD_ss, addD_ll, addD_tt, subD_ii, mulD_ii, mulD_li, mulD_ti, fdivD_ii, modD_ii, powD_ii, negD_i, ltD_ii, leD_ii, gtD_ii, geD_ii, isQ_n, isQ_b, nisQ_n, isN_non, isN_bl, isN_int, isN_str, isN_tup, isN_lst, isN_rol, isN_dct, isT_int_non, isT_int_bl, isT_int_int, isT_int_str, isT_int_tup, isT_int_lst, isT_int_rol, isT_int_dct, isT_bool_non, isT_bool_bl, isT_bool_int, isT_bool_str, isT_bool_tup, isT_bool_lst, isT_bool_rol, isT_bool_dct, isT_str_non, isT_str_bl, isT_str_int, isT_str_str, isT_str_tup, isT_str_lst, isT_str_rol, isT_str_dct, isT_tuple_non, isT_tuple_bl, isT_tuple_int, isT_tuple_str, isT_tuple_tup, isT_tuple_lst, isT_tuple_rol, isT_tuple_dct, isT_list_non, isT_list_bl, isT_list_int, isT_list_str, isT_list_tup, isT_list_lst, isT_list_rol, isT_list_dct, isT_dict_non, isT_dict_bl, isT_dict_int, isT_dict_str, isT_dict_tup, isT_dict_lst, isT_dict_rol, isT_dict_dct, truQ_non, truQ_bl, truQ_int, truQ_tup, truQ_lst, blQ_bl, lenD_tup, lenD_lst, lenD_rol, lenD_str, tupD_tup, tupD_lst, lstD_tup, lstD_lst, lstD_rol, intD_i, intD_b, boolD_i, boolD_b, ixD_tup, ixD_lst, ixD_rol, slD_lst, slD_tup, intQ_i, appD_1, extD_1, lsQ_own, lsQ_bor, gTp_t, gsCons_c, seqQ_t, seqQ_l, seqQ_r, hideS_fz, hideS_own, hideS_bor, hideS_no, mmQ_ii, atI_0, atI_1, atI_2, List.map_cons, List.map_nil, List.replicate, List.cons_append, List.nil_append, List.append_nil, List.set, List.length_cons, List.length_nil, decide_eq_true_eq, if_true, if_false, Bool.not_true, Bool.not_false, Bool.false_eq_true, and_true, true_and, List.nodup_cons, List.not_mem_nil, not_false_eq_true, List.nodup_nil, List.mem_cons, or_false, List.getD, hb, ga])
      refine ⟨(by simp [lents, slot, Sl.isOwn]), ih y (List.mem_of_getElem? gi) _ _ ?_⟩
      (try simp only [dSeq, dIfS, dRet, dRetN, dNext, dSet, dSetO, dDrop, dCall, callQ, dCallKw, dCons, dNil, dBor, dsQ, dTup, dLst, dV, dC, slot, dOp, dUn, dCmp, dCmpT, dChain, dChainT, dTru, dAnd, dOr, dNot, dAndV, dOrV, dNotV, dIf, dIsi, dNoO, dSoO, dSl, bodyQ, endsOf, outsOf, lents, putB, lentQ, dAsg, gNm, gsNil, iSeq, iRng, DL.iRng2, iEnm, dLm, dLm0, dPut, dMm, dYes, hQ, isSub, hideE, pick_0, pick_10, pick_210, rep2, kg, dFor, dLc, wipeD, restD, dPar, ixN3_0, ixN3_1, ixN3_2, ex_some, dRaise_1, dHeard_e, List.set_cons_zero, List.set_cons_succ, rdQ_fz, rdQ_own, rdQ_at, rdS_fz, rdS_own, rdS_bor, frzQ_fz, frzQ_own, frzQ_at, frS_fz, frS_own, nmQ_s, nmS_fz, nmS_own, nmS_bor, retQ_fz, retQ_own, retQ_at, rtS_fz, rtS_own, argsOf_at, argsOf_d, argsOf_n, lnS_own, lnS_bor, lnS_fz, reS_o, reS_b, setF_d, setO_own, setO_fz, setO_at, notBor_fz, notBor_own, notBor_no, isOwn_own, isOwn_bor, addD_ii, addD_ss, addD_ll, addD_tt, subD_ii, mulD_ii, mulD_li, mulD_ti, fdivD_ii, modD_ii, powD_ii, negD_i, ltD_ii, leD_ii, gtD_ii, geD_ii, isQ_n, isQ_b, nisQ_n, isN_non, isN_bl, isN_int, isN_str, isN_tup, isN_lst, isN_rol, isN_dct, isT_int_non, isT_int_bl, isT_int_int, isT_int_str, isT_int_tup, isT_int_lst, isT_int_rol, isT_int_dct, isT_bool_non, isT_bool_bl, isT_bool_int, isT_bool_str, isT_bool_tup, isT_bool_lst, isT_bool_rol, isT_bool_dct, isT_str_non, isT_str_bl, isT_str_int, isT_str_str, isT_str_tup, isT_str_lst, isT_str_rol, isT_str_dct, isT_tuple_non, isT_tuple_bl, isT_tuple_int, isT_tuple_str, isT_tuple_tup, isT_tuple_lst, isT_tuple_rol, isT_tuple_dct, isT_list_non, isT_list_bl, isT_list_int, isT_list_str, isT_list_tup, isT_list_lst, isT_list_rol, isT_list_dct, isT_dict_non, isT_dict_bl, isT_dict_int, isT_dict_str, isT_dict_tup, isT_dict_lst, isT_dict_rol, isT_dict_dct, truQ_non, truQ_bl, truQ_int, truQ_tup, truQ_lst, blQ_bl, lenD_tup, lenD_lst, lenD_rol, lenD_str, tupD_tup, tupD_lst, lstD_tup, lstD_lst, lstD_rol, intD_i, intD_b, boolD_i, boolD_b, ixD_tup, ixD_lst, ixD_rol, slD_lst, slD_tup, intQ_i, appD_1, extD_1, lsQ_own, lsQ_bor, gTp_t, gsCons_c, seqQ_t, seqQ_l, seqQ_r, hideS_fz, hideS_own, hideS_bor, hideS_no, mmQ_ii, atI_0, atI_1, atI_2, List.map_cons, List.map_nil, List.replicate, List.cons_append, List.nil_append, List.append_nil, List.set, List.length_cons, List.length_nil, decide_eq_true_eq, if_true, if_false, Bool.not_true, Bool.not_false, Bool.false_eq_true, and_true, true_and, List.nodup_cons, List.not_mem_nil, not_false_eq_true, List.nodup_nil, List.mem_cons, or_false, List.getD])
      exact nxt
theorem w_same : ∀ (k : Nat) (d : D) (Q : Rv → List OC → Prop) (ED : Nat → D → Prop), Y k d → Q (.fz (.bl true)) [] → sp_yq_same (k + 1) [.fz d, .fz d] Q ED
  | k, .non, Q, ED, _, hQ => by
    refine ⟨rfl, ?_⟩
    (try simp only [dSeq, dIfS, dRet, dRetN, dNext, dSet, dSetO, dDrop, dCall, callQ, dCallKw, dCons, dNil, dBor, dsQ, dTup, dLst, dV, dC, slot, dOp, dUn, dCmp, dCmpT, dChain, dChainT, dTru, dAnd, dOr, dNot, dAndV, dOrV, dNotV, dIf, dIsi, dNoO, dSoO, dSl, bodyQ, endsOf, outsOf, lents, putB, lentQ, dAsg, gNm, gsNil, iSeq, iRng, DL.iRng2, iEnm, dLm, dLm0, dPut, dMm, dYes, hQ, isSub, hideE, pick_0, pick_10, pick_210, rep2, kg, dFor, dLc, wipeD, restD, dPar, ixN3_0, ixN3_1, ixN3_2, ex_some, dRaise_1, dHeard_e, List.set_cons_zero, List.set_cons_succ, rdQ_fz, rdQ_own, rdQ_at, rdS_fz, rdS_own, rdS_bor, frzQ_fz, frzQ_own, frzQ_at, frS_fz, frS_own, nmQ_s, nmS_fz, nmS_own, nmS_bor, retQ_fz, retQ_own, retQ_at, rtS_fz, rtS_own, argsOf_at, argsOf_d, argsOf_n, lnS_own, lnS_bor, lnS_fz, reS_o, reS_b, setF_d, setO_own, setO_fz, setO_at, notBor_fz, notBor_own, notBor_no, isOwn_own, isOwn_bor, addD_ii, addD_ss, addD_ll, addD_tt, subD_ii, mulD_ii, mulD_li, mulD_ti, fdivD_ii, modD_ii, powD_ii, negD_i, ltD_ii, leD_ii, gtD_ii, geD_ii, isQ_n, isQ_b, nisQ_n, isN_non, isN_bl, isN_int, isN_str, isN_tup, isN_lst, isN_rol, isN_dct, isT_int_non, isT_int_bl, isT_int_int, isT_int_str, isT_int_tup, isT_int_lst, isT_int_rol, isT_int_dct, isT_bool_non, isT_bool_bl, isT_bool_int, isT_bool_str, isT_bool_tup, isT_bool_lst, isT_bool_rol, isT_bool_dct, isT_str_non, isT_str_bl, isT_str_int, isT_str_str, isT_str_tup, isT_str_lst, isT_str_rol, isT_str_dct, isT_tuple_non, isT_tuple_bl, isT_tuple_int, isT_tuple_str, isT_tuple_tup, isT_tuple_lst, isT_tuple_rol, isT_tuple_dct, isT_list_non, isT_list_bl, isT_list_int, isT_list_str, isT_list_tup, isT_list_lst, isT_list_rol, isT_list_dct, isT_dict_non, isT_dict_bl, isT_dict_int, isT_dict_str, isT_dict_tup, isT_dict_lst, isT_dict_rol, isT_dict_dct, truQ_non, truQ_bl, truQ_int, truQ_tup, truQ_lst, blQ_bl, lenD_tup, lenD_lst, lenD_rol, lenD_str, tupD_tup, tupD_lst, lstD_tup, lstD_lst, lstD_rol, intD_i, intD_b, boolD_i, boolD_b, ixD_tup, ixD_lst, ixD_rol, slD_lst, slD_tup, intQ_i, appD_1, extD_1, lsQ_own, lsQ_bor, gTp_t, gsCons_c, seqQ_t, seqQ_l, seqQ_r, hideS_fz, hideS_own, hideS_bor, hideS_no, mmQ_ii, atI_0, atI_1, atI_2, List.map_cons, List.map_nil, List.replicate, List.cons_append, List.nil_append, List.append_nil, List.set, List.length_cons, List.length_nil, decide_eq_true_eq, if_true, if_false, Bool.not_true, Bool.not_false, Bool.false_eq_true, and_true, true_and, List.nodup_cons, List.not_mem_nil, not_false_eq_true, List.nodup_nil, List.mem_cons, or_false, List.getD, td_yq_same])
    all_goals exact hQ
  | k, .bl b, Q, ED, _, hQ => by
    refine ⟨rfl, ?_⟩
    cases b <;> (try simp only [dSeq, dIfS, dRet, dRetN, dNext, dSet, dSetO, dDrop, dCall, callQ, dCallKw, dCons, dNil, dBor, dsQ, dTup, dLst, dV, dC, slot, dOp, dUn, dCmp, dCmpT, dChain, dChainT, dTru, dAnd, dOr, dNot, dAndV, dOrV, dNotV, dIf, dIsi, dNoO, dSoO, dSl, bodyQ, endsOf, outsOf, lents, putB, lentQ, dAsg, gNm, gsNil, iSeq, iRng, DL.iRng2, iEnm, dLm, dLm0, dPut, dMm, dYes, hQ, isSub, hideE, pick_0, pick_10, pick_210, rep2, kg, dFor, dLc, wipeD, restD, dPar, ixN3_0, ixN3_1, ixN3_2, ex_some, dRaise_1, dHeard_e, List.set_cons_zero, List.set_cons_succ, rdQ_fz, rdQ_own, rdQ_at, rdS_fz, rdS_own, rdS_bor, frzQ_fz, frzQ_own, frzQ_at, frS_fz, frS_own, nmQ_s, nmS_fz, nmS_own, nmS_bor, retQ_fz, retQ_own, retQ_at, rtS_fz, rtS_own, argsOf_at, argsOf_d, argsOf_n, lnS_own, lnS_bor, lnS_fz, reS_o, reS_b, setF_d, setO_own, setO_fz, setO_at, notBor_fz, notBor_own, notBor_no, isOwn_own, isOwn_bor, addD_ii, addD_ss, addD_ll, addD_tt, subD_ii, mulD_ii, mulD_li, mulD_ti, fdivD_ii, modD_ii, powD_ii, negD_i, ltD_ii, leD_ii, gtD_ii, geD_ii, isQ_n, isQ_b, nisQ_n, isN_non, isN_bl, isN_int, isN_str, isN_tup, isN_lst, isN_rol, isN_dct, isT_int_non, isT_int_bl, isT_int_int, isT_int_str, isT_int_tup, isT_int_lst, isT_int_rol, isT_int_dct, isT_bool_non, isT_bool_bl, isT_bool_int, isT_bool_str, isT_bool_tup, isT_bool_lst, isT_bool_rol, isT_bool_dct, isT_str_non, isT_str_bl, isT_str_int, isT_str_str, isT_str_tup, isT_str_lst, isT_str_rol, isT_str_dct, isT_tuple_non, isT_tuple_bl, isT_tuple_int, isT_tuple_str, isT_tuple_tup, isT_tuple_lst, isT_tuple_rol, isT_tuple_dct, isT_list_non, isT_list_bl, isT_list_int, isT_list_str, isT_list_tup, isT_list_lst, isT_list_rol, isT_list_dct, isT_dict_non, isT_dict_bl, isT_dict_int, isT_dict_str, isT_dict_tup, isT_dict_lst, isT_dict_rol, isT_dict_dct, truQ_non, truQ_bl, truQ_int, truQ_tup, truQ_lst, blQ_bl, lenD_tup, lenD_lst, lenD_rol, lenD_str, tupD_tup, tupD_lst, lstD_tup, lstD_lst, lstD_rol, intD_i, intD_b, boolD_i, boolD_b, ixD_tup, ixD_lst, ixD_rol, slD_lst, slD_tup, intQ_i, appD_1, extD_1, lsQ_own, lsQ_bor, gTp_t, gsCons_c, seqQ_t, seqQ_l, seqQ_r, hideS_fz, hideS_own, hideS_bor, hideS_no, mmQ_ii, atI_0, atI_1, atI_2, List.map_cons, List.map_nil, List.replicate, List.cons_append, List.nil_append, List.append_nil, List.set, List.length_cons, List.length_nil, decide_eq_true_eq, if_true, if_false, Bool.not_true, Bool.not_false, Bool.false_eq_true, and_true, true_and, List.nodup_cons, List.not_mem_nil, not_false_eq_true, List.nodup_nil, List.mem_cons, or_false, List.getD, td_yq_same, decide_true])
    all_goals exact hQ
  | k, .int i, Q, ED, _, hQ => by
    refine ⟨rfl, ?_⟩
    (try simp only [dSeq, dIfS, dRet, dRetN, dNext, dSet, dSetO, dDrop, dCall, callQ, dCallKw, dCons, dNil, dBor, dsQ, dTup, dLst, dV, dC, slot, dOp, dUn, dCmp, dCmpT, dChain, dChainT, dTru, dAnd, dOr, dNot, dAndV, dOrV, dNotV, dIf, dIsi, dNoO, dSoO, dSl, bodyQ, endsOf, outsOf, lents, putB, lentQ, dAsg, gNm, gsNil, iSeq, iRng, DL.iRng2, iEnm, dLm, dLm0, dPut, dMm, dYes, hQ, isSub, hideE, pick_0, pick_10, pick_210, rep2, kg, dFor, dLc, wipeD, restD, dPar, ixN3_0, ixN3_1, ixN3_2, ex_some, dRaise_1, dHeard_e, List.set_cons_zero, List.set_cons_succ, rdQ_fz, rdQ_own, rdQ_at, rdS_fz, rdS_own, rdS_bor, frzQ_fz, frzQ_own, frzQ_at, frS_fz, frS_own, nmQ_s, nmS_fz, nmS_own, nmS_bor, retQ_fz, retQ_own, retQ_at, rtS_fz, rtS_own, argsOf_at, argsOf_d, argsOf_n, lnS_own, lnS_bor, lnS_fz, reS_o, reS_b, setF_d, setO_own, setO_fz, setO_at, notBor_fz, notBor_own, notBor_no, isOwn_own, isOwn_bor, addD_ii, addD_ss, addD_ll, addD_tt, subD_ii, mulD_ii, mulD_li, mulD_ti, fdivD_ii, modD_ii, powD_ii, negD_i, ltD_ii, leD_ii, gtD_ii, geD_ii, isQ_n, isQ_b, nisQ_n, isN_non, isN_bl, isN_int, isN_str, isN_tup, isN_lst, isN_rol, isN_dct, isT_int_non, isT_int_bl, isT_int_int, isT_int_str, isT_int_tup, isT_int_lst, isT_int_rol, isT_int_dct, isT_bool_non, isT_bool_bl, isT_bool_int, isT_bool_str, isT_bool_tup, isT_bool_lst, isT_bool_rol, isT_bool_dct, isT_str_non, isT_str_bl, isT_str_int, isT_str_str, isT_str_tup, isT_str_lst, isT_str_rol, isT_str_dct, isT_tuple_non, isT_tuple_bl, isT_tuple_int, isT_tuple_str, isT_tuple_tup, isT_tuple_lst, isT_tuple_rol, isT_tuple_dct, isT_list_non, isT_list_bl, isT_list_int, isT_list_str, isT_list_tup, isT_list_lst, isT_list_rol, isT_list_dct, isT_dict_non, isT_dict_bl, isT_dict_int, isT_dict_str, isT_dict_tup, isT_dict_lst, isT_dict_rol, isT_dict_dct, truQ_non, truQ_bl, truQ_int, truQ_tup, truQ_lst, blQ_bl, lenD_tup, lenD_lst, lenD_rol, lenD_str, tupD_tup, tupD_lst, lstD_tup, lstD_lst, lstD_rol, intD_i, intD_b, boolD_i, boolD_b, ixD_tup, ixD_lst, ixD_rol, slD_lst, slD_tup, intQ_i, appD_1, extD_1, lsQ_own, lsQ_bor, gTp_t, gsCons_c, seqQ_t, seqQ_l, seqQ_r, hideS_fz, hideS_own, hideS_bor, hideS_no, mmQ_ii, atI_0, atI_1, atI_2, List.map_cons, List.map_nil, List.replicate, List.cons_append, List.nil_append, List.append_nil, List.set, List.length_cons, List.length_nil, decide_eq_true_eq, if_true, if_false, Bool.not_true, Bool.not_false, Bool.false_eq_true, and_true, true_and, List.nodup_cons, List.not_mem_nil, not_false_eq_true, List.nodup_nil, List.mem_cons, or_false, List.getD, td_yq_same])
    refine ⟨(by simp [lents, slot, Sl.isOwn]), w_whole ?_⟩
    (try simp only [dSeq, dIfS, dRet, dRetN, dNext, dSet, dSetO, dDrop, dCall, callQ, dCallKw, dCons, dNil, dBor, dsQ, dTup, dLst, dV, dC, slot, dOp, dUn, dCmp, dCmpT, dChain, dChainT, dTru, dAnd, dOr, dNot, dAndV, dOrV, dNotV, dIf, dIsi, dNoO, dSoO, dSl, bodyQ, endsOf, outsOf, lents, putB, lentQ, dAsg, gNm, gsNil, iSeq, iRng, DL.iRng2, iEnm, dLm, dLm0, dPut, dMm, dYes, hQ, isSub, hideE, pick_0, pick_10, pick_210, rep2, kg, dFor, dLc, wipeD, restD, dPar, ixN3_0, ixN3_1, ixN3_2, ex_some, dRaise_1, dHeard_e, List.set_cons_zero, List.set_cons_succ, rdQ_fz, rdQ_own, rdQ_at, rdS_fz, rdS_own, rdS_bor, frzQ_fz, frzQ_own, frzQ_at, frS_fz, frS_own, nmQ_s, nmS_fz, nmS_own, nmS_bor, retQ_fz, retQ_own, retQ_at, rtS_fz, rtS_own, argsOf_at, argsOf_d, argsOf_n, lnS_own, lnS_bor, lnS_fz, reS_o, reS_b, setF_d, setO_own, setO_fz, setO_at, notBor_fz, notBor_own, notBor_no, isOwn_own, isOwn_bor, addD_ii, addD_ss, addD_ll, addD_tt, subD_ii, mulD_ii, mulD_li, mulD_ti, fdivD_ii, modD_ii, powD_ii, negD_i, ltD_ii, leD_ii, gtD_ii, geD_ii, isQ_n, isQ_b, nisQ_n, isN_non, isN_bl, isN_int, isN_str, isN_tup, isN_lst, isN_rol, isN_dct, isT_int_non, isT_int_bl, isT_int_int, isT_int_str, isT_int_tup, isT_int_lst, isT_int_rol, isT_int_dct, isT_bool_non, isT_bool_bl, isT_bool_int, isT_bool_str, isT_bool_tup, isT_bool_lst, isT_bool_rol, isT_bool_dct, isT_str_non, isT_str_bl, isT_str_int, isT_str_str, isT_str_tup, isT_str_lst, isT_str_rol, isT_str_dct, isT_tuple_non, isT_tuple_bl, isT_tuple_int, isT_tuple_str, isT_tuple_tup, isT_tuple_lst, isT_tuple_rol, isT_tuple_dct, isT_list_non, isT_list_bl, isT_list_int, isT_list_str, isT_list_tup, isT_list_lst, isT_list_rol, isT_list_dct, isT_dict_non, isT_dict_bl, isT_dict_int, isT_dict_str, isT_dict_tup, isT_dict_lst, isT_dict_rol, isT_dict_dct, truQ_non, truQ_bl, truQ_int, truQ_tup, truQ_lst, blQ_bl, lenD_tup, lenD_lst, lenD_rol, lenD_str, tupD_tup, tupD_lst, lstD_tup, lstD_lst, lstD_rol, intD_i, intD_b, boolD_i, boolD_b, ixD_tup, ixD_lst, ixD_rol, slD_lst, slD_tup, intQ_i, appD_1, extD_1, lsQ_own, lsQ_bor, gTp_t, gsCons_c, seqQ_t, seqQ_l, seqQ_r, hideS_fz, hideS_own, hideS_bor, hideS_no, mmQ_ii, atI_0, atI_1, atI_2, List.map_cons, List.map_nil, List.replicate, List.cons_append, List.nil_append, List.append_nil, List.set, List.length_cons, List.length_nil, decide_eq_true_eq, if_true, if_false, Bool.not_true, Bool.not_false, Bool.false_eq_true, and_true, true_and, List.nodup_cons, List.not_mem_nil, not_false_eq_true, List.nodup_nil, List.mem_cons, or_false, List.getD])
    refine ⟨okD_int, okD_int, ?_⟩
    (try simp only [dSeq, dIfS, dRet, dRetN, dNext, dSet, dSetO, dDrop, dCall, callQ, dCallKw, dCons, dNil, dBor, dsQ, dTup, dLst, dV, dC, slot, dOp, dUn, dCmp, dCmpT, dChain, dChainT, dTru, dAnd, dOr, dNot, dAndV, dOrV, dNotV, dIf, dIsi, dNoO, dSoO, dSl, bodyQ, endsOf, outsOf, lents, putB, lentQ, dAsg, gNm, gsNil, iSeq, iRng, DL.iRng2, iEnm, dLm, dLm0, dPut, dMm, dYes, hQ, isSub, hideE, pick_0, pick_10, pick_210, rep2, kg, dFor, dLc, wipeD, restD, dPar, ixN3_0, ixN3_1, ixN3_2, ex_some, dRaise_1, dHeard_e, List.set_cons_zero, List.set_cons_succ, rdQ_fz, rdQ_own, rdQ_at, rdS_fz, rdS_own, rdS_bor, frzQ_fz, frzQ_own, frzQ_at, frS_fz, frS_own, nmQ_s, nmS_fz, nmS_own, nmS_bor, retQ_fz, retQ_own, retQ_at, rtS_fz, rtS_own, argsOf_at, argsOf_d, argsOf_n, lnS_own, lnS_bor, lnS_fz, reS_o, reS_b, setF_d, setO_own, setO_fz, setO_at, notBor_fz, notBor_own, notBor_no, isOwn_own, isOwn_bor, addD_ii, addD_ss, addD_ll, addD_tt, subD_ii, mulD_ii, mulD_li, mulD_ti, fdivD_ii, modD_ii, powD_ii, negD_i, ltD_ii, leD_ii, gtD_ii, geD_ii, isQ_n, isQ_b, nisQ_n, isN_non, isN_bl, isN_int, isN_str, isN_tup, isN_lst, isN_rol, isN_dct, isT_int_non, isT_int_bl, isT_int_int, isT_int_str, isT_int_tup, isT_int_lst, isT_int_rol, isT_int_dct, isT_bool_non, isT_bool_bl, isT_bool_int, isT_bool_str, isT_bool_tup, isT_bool_lst, isT_bool_rol, isT_bool_dct, isT_str_non, isT_str_bl, isT_str_int, isT_str_str, isT_str_tup, isT_str_lst, isT_str_rol, isT_str_dct, isT_tuple_non, isT_tuple_bl, isT_tuple_int, isT_tuple_str, isT_tuple_tup, isT_tuple_lst, isT_tuple_rol, isT_tuple_dct, isT_list_non, isT_list_bl, isT_list_int, isT_list_str, isT_list_tup, isT_list_lst, isT_list_rol, isT_list_dct, isT_dict_non, isT_dict_bl, isT_dict_int, isT_dict_str, isT_dict_tup, isT_dict_lst, isT_dict_rol, isT_dict_dct, truQ_non, truQ_bl, truQ_int, truQ_tup, truQ_lst, blQ_bl, lenD_tup, lenD_lst, lenD_rol, lenD_str, tupD_tup, tupD_lst, lstD_tup, lstD_lst, lstD_rol, intD_i, intD_b, boolD_i, boolD_b, ixD_tup, ixD_lst, ixD_rol, slD_lst, slD_tup, intQ_i, appD_1, extD_1, lsQ_own, lsQ_bor, gTp_t, gsCons_c, seqQ_t, seqQ_l, seqQ_r, hideS_fz, hideS_own, hideS_bor, hideS_no, mmQ_ii, atI_0, atI_1, atI_2, List.map_cons, List.map_nil, List.replicate, List.cons_append, List.nil_append, List.append_nil, List.set, List.length_cons, List.length_nil, decide_eq_true_eq, if_true, if_false, Bool.not_true, Bool.not_false, Bool.false_eq_true, and_true, true_and, List.nodup_cons, List.not_mem_nil, not_false_eq_true, List.nodup_nil, List.mem_cons, or_false, List.getD, eqD_int, beq_self_eq_true])
    all_goals exact hQ
  | k, .str s, Q, ED, hY, hQ => by
    have hs : PyData.strOk s = true := by cases k <;> exact hY.2
    refine ⟨rfl, ?_⟩
    (try simp only [dSeq, dIfS, dRet, dRetN, dNext, dSet, dSetO, dDrop, dCall, callQ, dCallKw, dCons, dNil, dBor, dsQ, dTup, dLst, dV, dC, slot, dOp, dUn, dCmp, dCmpT, dChain, dChainT, dTru, dAnd, dOr, dNot, dAndV, dOrV, dNotV, dIf, dIsi, dNoO, dSoO, dSl, bodyQ, endsOf, outsOf, lents, putB, lentQ, dAsg, gNm, gsNil, iSeq, iRng, DL.iRng2, iEnm, dLm, dLm0, dPut, dMm, dYes, hQ, isSub, hideE, pick_0, pick_10, pick_210, rep2, kg, dFor, dLc, wipeD, restD, dPar, ixN3_0, ixN3_1, ixN3_2, ex_some, dRaise_1, dHeard_e, List.set_cons_zero, List.set_cons_succ, rdQ_fz, rdQ_own, rdQ_at, rdS_fz, rdS_own, rdS_bor, frzQ_fz, frzQ_own, frzQ_at, frS_fz, frS_own, nmQ_s, nmS_fz, nmS_own, nmS_bor, retQ_fz, retQ_own, retQ_at, rtS_fz, rtS_own, argsOf_at, argsOf_d, argsOf_n, lnS_own, lnS_bor, lnS_fz, reS_o, reS_b, setF_d, setO_own, setO_fz, setO_at, notBor_fz, notBor_own, notBor_no, isOwn_own, isOwn_bor, addD_ii, addD_ss, addD_ll, addD_tt, subD_ii, mulD_ii, mulD_li, mulD_ti, fdivD_ii, modD_ii, powD_ii, negD_i, ltD_ii, leD_ii, gtD_ii, geD_ii, isQ_n, isQ_b, nisQ_n, isN_non, isN_bl, isN_int, isN_str, isN_tup, isN_lst, isN_rol, isN_dct, isT_int_non, isT_int_bl, isT_int_int, isT_int_str, isT_int_tup, isT_int_lst, isT_int_rol, isT_int_dct, isT_bool_non, isT_bool_bl, isT_bool_int, isT_bool_str, isT_bool_tup, isT_bool_lst, isT_bool_rol, isT_bool_dct, isT_str_non, isT_str_bl, isT_str_int, isT_str_str, isT_str_tup, isT_str_lst, isT_str_rol, isT_str_dct, isT_tuple_non, isT_tuple_bl, isT_tuple_int, isT_tuple_str, isT_tuple_tup, isT_tuple_lst, isT_tuple_rol, isT_tuple_dct, isT_list_non, isT_list_bl, isT_list_int, isT_list_str, isT_list_tup, isT_list_lst, isT_list_rol, isT_list_dct, isT_dict_non, isT_dict_bl, isT_dict_int, isT_dict_str, isT_dict_tup, isT_dict_lst, isT_dict_rol, isT_dict_dct, truQ_non, truQ_bl, truQ_int, truQ_tup, truQ_lst, blQ_bl, lenD_tup, lenD_lst, lenD_rol, lenD_str, tupD_tup, tupD_lst, lstD_tup, lstD_lst, lstD_rol, intD_i, intD_b, boolD_i, boolD_b, ixD_tup, ixD_lst, ixD_rol, slD_lst, slD_tup, intQ_i, appD_1, extD_1, lsQ_own, lsQ_bor, gTp_t, gsCons_c, seqQ_t, seqQ_l, seqQ_r, hideS_fz, hideS_own, hideS_bor, hideS_no, mmQ_ii, atI_0, atI_1, atI_2, List.map_cons, List.map_nil, List.replicate, List.cons_append, List.nil_append, List.append_nil, List.set, List.length_cons, List.length_nil, decide_eq_true_eq, if_true, if_false, Bool.not_true, Bool.not_false, Bool.false_eq_true, and_true, true_and, List.nodup_cons, List.not_mem_nil, not_false_eq_true, List.nodup_nil, List.mem_cons, or_false, List.getD, td_yq_same])
    refine ⟨okD_str hs, okD_str hs, ?_⟩
    (try simp only [dSeq, dIfS, dRet, dRetN, dNext, dSet, dSetO, dDrop, dCall, callQ, dCallKw, dCons, dNil, dBor, dsQ, dTup, dLst, dV, dC, slot, dOp, dUn, dCmp, dCmpT, dChain, dChainT, dTru, dAnd, dOr, dNot, dAndV, dOrV, dNotV, dIf, dIsi, dNoO, dSoO, dSl, bodyQ, endsOf, outsOf, lents, putB, lentQ, dAsg, gNm, gsNil, iSeq, iRng, DL.iRng2, iEnm, dLm, dLm0, dPut, dMm, dYes, hQ, isSub, hideE, pick_0, pick_10, pick_210, rep2, kg, dFor, dLc, wipeD, restD, dPar, ixN3_0, ixN3_1, ixN3_2, ex_some, dRaise_1, dHeard_e, List.set_cons_zero, List.set_cons_succ, rdQ_fz, rdQ_own, rdQ_at, rdS_fz, rdS_own, rdS_bor, frzQ_fz, frzQ_own, frzQ_at, frS_fz, frS_own, nmQ_s, nmS_fz, nmS_own, nmS_bor, retQ_fz, retQ_own, retQ_at, rtS_fz, rtS_own, argsOf_at, argsOf_d, argsOf_n, lnS_own, lnS_bor, lnS_fz, reS_o, reS_b, setF_d, setO_own, setO_fz, setO_at, notBor_fz, notBor_own, notBor_no, isOwn_own, isOwn_bor, addD_ii, addD_ss, addD_ll, addD_tt, subD_ii, mulD_ii, mulD_li, mulD_ti, fdivD_ii, modD_ii, powD_ii, negD_i, ltD_ii, leD_ii, gtD_ii, geD_ii, isQ_n, isQ_b, nisQ_n, isN_non, isN_bl, isN_int, isN_str, isN_tup, isN_lst, isN_rol, isN_dct, isT_int_non, isT_int_bl, isT_int_int, isT_int_str, isT_int_tup, isT_int_lst, isT_int_rol, isT_int_dct, isT_bool_non, isT_bool_bl, isT_bool_int, isT_bool_str, isT_bool_tup, isT_bool_lst, isT_bool_rol, isT_bool_dct, isT_str_non, isT_str_bl, isT_str_int, isT_str_str, isT_str_tup, isT_str_lst, isT_str_rol, isT_str_dct, isT_tuple_non, isT_tuple_bl, isT_tuple_int, isT_tuple_str, isT_tuple_tup, isT_tuple_lst, isT_tuple_rol, isT_tuple_dct, isT_list_non, isT_list_bl, isT_list_int, isT_list_str, isT_list_tup, isT_list_lst, isT_list_rol, isT_list_dct, isT_dict_non, isT_dict_bl, isT_dict_int, isT_dict_str, isT_dict_tup, isT_dict_lst, isT_dict_rol, isT_dict_dct, truQ_non, truQ_bl, truQ_int, truQ_tup, truQ_lst, blQ_bl, lenD_tup, lenD_lst, lenD_rol, lenD_str, tupD_tup, tupD_lst, lstD_tup, lstD_lst, lstD_rol, intD_i, intD_b, boolD_i, boolD_b, ixD_tup, ixD_lst, ixD_rol, slD_lst, slD_tup, intQ_i, appD_1, extD_1, lsQ_own, lsQ_bor, gTp_t, gsCons_c, seqQ_t, seqQ_l, seqQ_r, hideS_fz, hideS_own, hideS_bor, hideS_no, mmQ_ii, atI_0, atI_1, atI_2, List.map_cons, List.map_nil, List.replicate, List.cons_append, List.nil_append, List.append_nil, List.set, List.length_cons, List.length_nil, decide_eq_true_eq, if_true, if_false, Bool.not_true, Bool.not_false, Bool.false_eq_true, and_true, true_and, List.nodup_cons, List.not_mem_nil, not_false_eq_true, List.nodup_nil, List.mem_cons, or_false, List.getD, eqD_str, beq_self_eq_true])
    all_goals exact hQ
  | 0, .tup ds, Q, ED, hY, hQ => hY.elim
  | 0, .lst ds, Q, ED, hY, hQ => hY.elim
  | k + 1, .tup ds, Q, ED, hY, hQ => by
    refine ⟨rfl, ?_⟩
    (try simp only [dSeq, dIfS, dRet, dRetN, dNext, dSet, dSetO, dDrop, dCall, callQ, dCallKw, dCons, dNil, dBor, dsQ, dTup, dLst, dV, dC, slot, dOp, dUn, dCmp, dCmpT, dChain, dChainT, dTru, dAnd, dOr, dNot, dAndV, dOrV, dNotV, dIf, dIsi, dNoO, dSoO, dSl, bodyQ, endsOf, outsOf, lents, putB, lentQ, dAsg, gNm, gsNil, iSeq, iRng, DL.iRng2, iEnm, dLm, dLm0, dPut, dMm, dYes, hQ, isSub, hideE, pick_0, pick_10, pick_210, rep2, kg, dFor, dLc, wipeD, restD, dPar, ixN3_0, ixN3_1, ixN3_2, ex_some, dRaise_1, dHeard_e, List.set_cons_zero, List.set_cons_succ, rdQ_fz, rdQ_own, rdQ_at, rdS_fz, rdS_own, rdS_bor, frzQ_fz, frzQ_own, frzQ_at, frS_fz, frS_own, nmQ_s, nmS_fz, nmS_own, nmS_bor, retQ_fz, retQ_own, retQ_at, rtS_fz, rtS_own, argsOf_at, argsOf_d, argsOf_n, lnS_own, lnS_bor, lnS_fz, reS_o, reS_b, setF_d, setO_own, setO_fz, setO_at, notBor_fz, notBor_own, notBor_no, isOwn_own, isOwn_bor, addD_ii, addD_ss, addD_ll, addD_tt, subD_ii, mulD_ii, mulD_li, mulD_ti, fdivD_ii, modD_ii, powD_ii, negD_i, ltD_ii, leD_ii, gtD_ii, geD_ii, isQ_n, isQ_b, nisQ_n, isN_non, isN_bl, isN_int, isN_str, isN_tup, isN_lst, isN_rol, isN_dct, isT_int_non, isT_int_bl, isT_int_int, isT_int_str, isT_int_tup, isT_int_lst, isT_int_rol, isT_int_dct, isT_bool_non, isT_bool_bl, isT_bool_int, isT_bool_str, isT_bool_tup, isT_bool_lst, isT_bool_rol, isT_bool_dct, isT_str_non, isT_str_bl, isT_str_int, isT_str_str, isT_str_tup, isT_str_lst, isT_str_rol, isT_str_dct, isT_tuple_non, isT_tuple_bl, isT_tuple_int, isT_tuple_str, isT_tuple_tup, isT_tuple_lst, isT_tuple_rol, isT_tuple_dct, isT_list_non, isT_list_bl, isT_list_int, isT_list_str, isT_list_tup, isT_list_lst, isT_list_rol, isT_list_dct, isT_dict_non, isT_dict_bl, isT_dict_int, isT_dict_str, isT_dict_tup, isT_dict_lst, isT_dict_rol, isT_dict_dct, truQ_non, truQ_bl, truQ_int, truQ_tup, truQ_lst, blQ_bl, lenD_tup, lenD_lst, lenD_rol, lenD_str, tupD_tup, tupD_lst, lstD_tup, lstD_lst, lstD_rol, intD_i, intD_b, boolD_i, boolD_b, ixD_tup, ixD_lst, ixD_rol, slD_lst, slD_tup, intQ_i, appD_1, extD_1, lsQ_own, lsQ_bor, gTp_t, gsCons_c, seqQ_t, seqQ_l, seqQ_r, hideS_fz, hideS_own, hideS_bor, hideS_no, mmQ_ii, atI_0, atI_1, atI_2, List.map_cons, List.map_nil, List.replicate, List.cons_append, List.nil_append, List.append_nil, List.set, List.length_cons, List.length_nil, decide_eq_true_eq, if_true, if_false, Bool.not_true, Bool.not_false, Bool.false_eq_true, and_true, true_and, List.nodup_cons, List.not_mem_nil, not_false_eq_true, List.nodup_nil, List.mem_cons, or_false, List.getD, td_yq_same])
    refine ⟨okD_bl, okD_bl, ?_⟩
    (try simp only [dSeq, dIfS, dRet, dRetN, dNext, dSet, dSetO, dDrop, dCall, callQ, dCallKw, dCons, dNil, dBor, dsQ, dTup, dLst, dV, dC, slot, dOp, dUn, dCmp, dCmpT, dChain, dChainT, dTru, dAnd, dOr, dNot, dAndV, dOrV, dNotV, dIf, dIsi, dNoO, dSoO, dSl, bodyQ, endsOf, outsOf, lents, putB, lentQ, dAsg, gNm, gsNil, iSeq, iRng, DL.iRng2, iEnm, dLm, dLm0, dPut, dMm, dYes, hQ, isSub, hideE, pick_0, pick_10, pick_210, rep2, kg, dFor, dLc, wipeD, restD, dPar, ixN3_0, ixN3_1, ixN3_2, ex_some, dRaise_1, dHeard_e, List.set_cons_zero, List.set_cons_succ, rdQ_fz, rdQ_own, rdQ_at, rdS_fz, rdS_own, rdS_bor, frzQ_fz, frzQ_own, frzQ_at, frS_fz, frS_own, nmQ_s, nmS_fz, nmS_own, nmS_bor, retQ_fz, retQ_own, retQ_at, rtS_fz, rtS_own, argsOf_at, argsOf_d, argsOf_n, lnS_own, lnS_bor, lnS_fz, reS_o, reS_b, setF_d, setO_own, setO_fz, setO_at, notBor_fz, notBor_own, notBor_no, isOwn_own, isOwn_bor, addD_ii, addD_ss, addD_ll, addD_tt, subD_ii, mulD_ii, mulD_li, mulD_ti, fdivD_ii, modD_ii, powD_ii, negD_i, ltD_ii, leD_ii, gtD_ii, geD_ii, isQ_n, isQ_b, nisQ_n, isN_non, isN_bl, isN_int, isN_str, isN_tup, isN_lst, isN_rol, isN_dct, isT_int_non, isT_int_bl, isT_int_int, isT_int_str, isT_int_tup, isT_int_lst, isT_int_rol, isT_int_dct, isT_bool_non, isT_bool_bl, isT_bool_int, isT_bool_str, isT_bool_tup, isT_bool_lst, isT_bool_rol, isT_bool_dct, isT_str_non, isT_str_bl, isT_str_int, isT_str_str, isT_str_tup, isT_str_lst, isT_str_rol, isT_str_dct, isT_tuple_non, isT_tuple_bl, isT_tuple_int, isT_tuple_str, isT_tuple_tup, isT_tuple_lst, isT_tuple_rol, isT_tuple_dct, isT_list_non, isT_list_bl, isT_list_int, isT_list_str, isT_list_tup, isT_list_lst, isT_list_rol, isT_list_dct, isT_dict_non, isT_dict_bl, isT_dict_int, isT_dict_str, isT_dict_tup, isT_dict_lst, isT_dict_rol, isT_dict_dct, truQ_non, truQ_bl, truQ_int, truQ_tup, truQ_lst, blQ_bl, lenD_tup, lenD_lst, lenD_rol, lenD_str, tupD_tup, tupD_lst, lstD_tup, lstD_lst, lstD_rol, intD_i, intD_b, boolD_i, boolD_b, ixD_tup, ixD_lst, ixD_rol, slD_lst, slD_tup, intQ_i, appD_1, extD_1, lsQ_own, lsQ_bor, gTp_t, gsCons_c, seqQ_t, seqQ_l, seqQ_r, hideS_fz, hideS_own, hideS_bor, hideS_no, mmQ_ii, atI_0, atI_1, atI_2, List.map_cons, List.map_nil, List.replicate, List.cons_append, List.nil_append, List.append_nil, List.set, List.length_cons, List.length_nil, decide_eq_true_eq, if_true, if_false, Bool.not_true, Bool.not_false, Bool.false_eq_true, and_true, true_and, List.nodup_cons, List.not_mem_nil, not_false_eq_true, List.nodup_nil, List.mem_cons, or_false, List.getD, eqD_bl, beq_self_eq_true])
    refine ⟨okD_bl, okD_bl, ?_⟩
    (try simp only [dSeq, dIfS, dRet, dRetN, dNext, dSet, dSetO, dDrop, dCall, callQ, dCallKw, dCons, dNil, dBor, dsQ, dTup, dLst, dV, dC, slot, dOp, dUn, dCmp, dCmpT, dChain, dChainT, dTru, dAnd, dOr, dNot, dAndV, dOrV, dNotV, dIf, dIsi, dNoO, dSoO, dSl, bodyQ, endsOf, outsOf, lents, putB, lentQ, dAsg, gNm, gsNil, iSeq, iRng, DL.iRng2, iEnm, dLm, dLm0, dPut, dMm, dYes, hQ, isSub, hideE, pick_0, pick_10, pick_210, rep2, kg, dFor, dLc, wipeD, restD, dPar, ixN3_0, ixN3_1, ixN3_2, ex_some, dRaise_1, dHeard_e, List.set_cons_zero, List.set_cons_succ, rdQ_fz, rdQ_own, rdQ_at, rdS_fz, rdS_own, rdS_bor, frzQ_fz, frzQ_own, frzQ_at, frS_fz, frS_own, nmQ_s, nmS_fz, nmS_own, nmS_bor, retQ_fz, retQ_own, retQ_at, rtS_fz, rtS_own, argsOf_at, argsOf_d, argsOf_n, lnS_own, lnS_bor, lnS_fz, reS_o, reS_b, setF_d, setO_own, setO_fz, setO_at, notBor_fz, notBor_own, notBor_no, isOwn_own, isOwn_bor, addD_ii, addD_ss, addD_ll, addD_tt, subD_ii, mulD_ii, mulD_li, mulD_ti, fdivD_ii, modD_ii, powD_ii, negD_i, ltD_ii, leD_ii, gtD_ii, geD_ii, isQ_n, isQ_b, nisQ_n, isN_non, isN_bl, isN_int, isN_str, isN_tup, isN_lst, isN_rol, isN_dct, isT_int_non, isT_int_bl, isT_int_int, isT_int_str, isT_int_tup, isT_int_lst, isT_int_rol, isT_int_dct, isT_bool_non, isT_bool_bl, isT_bool_int, isT_bool_str, isT_bool_tup, isT_bool_lst, isT_bool_rol, isT_bool_dct, isT_str_non, isT_str_bl, isT_str_int, isT_str_str, isT_str_tup, isT_str_lst, isT_str_rol, isT_str_dct, isT_tuple_non, isT_tuple_bl, isT_tuple_int, isT_tuple_str, isT_tuple_tup, isT_tuple_lst, isT_tuple_rol, isT_tuple_dct, isT_list_non, isT_list_bl, isT_list_int, isT_list_str, isT_list_tup, isT_list_lst, isT_list_rol, isT_list_dct, isT_dict_non, isT_dict_bl, isT_dict_int, isT_dict_str, isT_dict_tup, isT_dict_lst, isT_dict_rol, isT_dict_dct, truQ_non, truQ_bl, truQ_int, truQ_tup, truQ_lst, blQ_bl, lenD_tup, lenD_lst, lenD_rol, lenD_str, tupD_tup, tupD_lst, lstD_tup, lstD_lst, lstD_rol, intD_i, intD_b, boolD_i, boolD_b, ixD_tup, ixD_lst, ixD_rol, slD_lst, slD_tup, intQ_i, appD_1, extD_1, lsQ_own, lsQ_bor, gTp_t, gsCons_c, seqQ_t, seqQ_l, seqQ_r, hideS_fz, hideS_own, hideS_bor, hideS_no, mmQ_ii, atI_0, atI_1, atI_2, List.map_cons, List.map_nil, List.replicate, List.cons_append, List.nil_append, List.append_nil, List.set, List.length_cons, List.length_nil, decide_eq_true_eq, if_true, if_false, Bool.not_true, Bool.not_false, Bool.false_eq_true, and_true, true_and, List.nodup_cons, List.not_mem_nil, not_false_eq_true, List.nodup_nil, List.mem_cons, or_false, List.getD, eqD_bl, beq_self_eq_true])
    refine ⟨okD_int, okD_int, ?_⟩
    (try simp only [dSeq, dIfS, dRet, dRetN, dNext, dSet, dSetO, dDrop, dCall, callQ, dCallKw, dCons, dNil, dBor, dsQ, dTup, dLst, dV, dC, slot, dOp, dUn, dCmp, dCmpT, dChain, dChainT, dTru, dAnd, dOr, dNot, dAndV, dOrV, dNotV, dIf, dIsi, dNoO, dSoO, dSl, bodyQ, endsOf, outsOf, lents, putB, lentQ, dAsg, gNm, gsNil, iSeq, iRng, DL.iRng2, iEnm, dLm, dLm0, dPut, dMm, dYes, hQ, isSub, hideE, pick_0, pick_10, pick_210, rep2, kg, dFor, dLc, wipeD, restD, dPar, ixN3_0, ixN3_1, ixN3_2, ex_some, dRaise_1, dHeard_e, List.set_cons_zero, List.set_cons_succ, rdQ_fz, rdQ_own, rdQ_at, rdS_fz, rdS_own, rdS_bor, frzQ_fz, frzQ_own, frzQ_at, frS_fz, frS_own, nmQ_s, nmS_fz, nmS_own, nmS_bor, retQ_fz, retQ_own, retQ_at, rtS_fz, rtS_own, argsOf_at, argsOf_d, argsOf_n, lnS_own, lnS_bor, lnS_fz, reS_o, reS_b, setF_d, setO_own, setO_fz, setO_at, notBor_fz, notBor_own, notBor_no, isOwn_own, isOwn_bor, addD_ii, addD_ss, addD_ll, addD_tt, subD_ii, mulD_ii, mulD_li, mulD_ti, fdivD_ii, modD_ii, powD_ii, negD_i, ltD_ii, leD_ii, gtD_ii, geD_ii, isQ_n, isQ_b, nisQ_n, isN_non, isN_bl, isN_int, isN_str, isN_tup, isN_lst, isN_rol, isN_dct, isT_int_non, isT_int_bl, isT_int_int, isT_int_str, isT_int_tup, isT_int_lst, isT_int_rol, isT_int_dct, isT_bool_non, isT_bool_bl, isT_bool_int, isT_bool_str, isT_bool_tup, isT_bool_lst, isT_bool_rol, isT_bool_dct, isT_str_non, isT_str_bl, isT_str_int, isT_str_str, isT_str_tup, isT_str_lst, isT_str_rol, isT_str_dct, isT_tuple_non, isT_tuple_bl, isT_tuple_int, isT_tuple_str, isT_tuple_tup, isT_tuple_lst, isT_tuple_rol, isT_tuple_dct, isT_list_non, isT_list_bl, isT_list_int, isT_list_str, isT_list_tup, isT_list_lst, isT_list_rol, isT_list_dct, isT_dict_non, isT_dict_bl, isT_dict_int, isT_dict_str, isT_dict_tup, isT_dict_lst, isT_dict_rol, isT_dict_dct, truQ_non, truQ_bl, truQ_int, truQ_tup, truQ_lst, blQ_bl, lenD_tup, lenD_lst, lenD_rol, lenD_str, tupD_tup, tupD_lst, lstD_tup, lstD_lst, lstD_rol, intD_i, intD_b, boolD_i, boolD_b, ixD_tup, ixD_lst, ixD_rol, slD_lst, slD_tup, intQ_i, appD_1, extD_1, lsQ_own, lsQ_bor, gTp_t, gsCons_c, seqQ_t, seqQ_l, seqQ_r, hideS_fz, hideS_own, hideS_bor, hideS_no, mmQ_ii, atI_0, atI_1, atI_2, List.map_cons, List.map_nil, List.replicate, List.cons_append, List.nil_append, List.append_nil, List.set, List.length_cons, List.length_nil, decide_eq_true_eq, if_true, if_false, Bool.not_true, Bool.not_false, Bool.false_eq_true, and_true, true_and, List.nodup_cons, List.not_mem_nil, not_false_eq_true, List.nodup_nil, List.mem_cons, or_false, List.getD, eqD_int, beq_self_eq_true])
    refine ⟨lenZ hY.1, ?_⟩
    rw [show ((ds.length : Nat) : Int).toNat = ds.length by omega, rngD_0]
    refine same_seq (k := k + 1) (fun e he Q ED hq => w_same k e Q ED (hY.2 e he) hq) (.inl rfl) _ rfl (fun s => ?_) 0 ds .no rfl rfl
    (try simp only [dSeq, dIfS, dRet, dRetN, dNext, dSet, dSetO, dDrop, dCall, callQ, dCallKw, dCons, dNil, dBor, dsQ, dTup, dLst, dV, dC, slot, dOp, dUn, dCmp, dCmpT, dChain, dChainT, dTru, dAnd, dOr, dNot, dAndV, dOrV, dNotV, dIf, dIsi, dNoO, dSoO, dSl, bodyQ, endsOf, outsOf, lents, putB, lentQ, dAsg, gNm, gsNil, iSeq, iRng, DL.iRng2, iEnm, dLm, dLm0, dPut, dMm, dYes, hQ, isSub, hideE, pick_0, pick_10, pick_210, rep2, kg, dFor, dLc, wipeD, restD, dPar, ixN3_0, ixN3_1, ixN3_2, ex_some, dRaise_1, dHeard_e, List.set_cons_zero, List.set_cons_succ, rdQ_fz, rdQ_own, rdQ_at, rdS_fz, rdS_own, rdS_bor, frzQ_fz, frzQ_own, frzQ_at, frS_fz, frS_own, nmQ_s, nmS_fz, nmS_own, nmS_bor, retQ_fz, retQ_own, retQ_at, rtS_fz, rtS_own, argsOf_at, argsOf_d, argsOf_n, lnS_own, lnS_bor, lnS_fz, reS_o, reS_b, setF_d, setO_own, setO_fz, setO_at, notBor_fz, notBor_own, notBor_no, isOwn_own, isOwn_bor, addD_ii, addD_ss, addD_ll, addD_tt, subD_ii, mulD_ii, mulD_li, mulD_ti, fdivD_ii, modD_ii, powD_ii, negD_i, ltD_ii, leD_ii, gtD_ii, geD_ii, isQ_n, isQ_b, nisQ_n, isN_non, isN_bl, isN_int, isN_str, isN_tup, isN_lst, isN_rol, isN_dct, isT_int_non, isT_int_bl, isT_int_int, isT_int_str, isT_int_tup, isT_int_lst, isT_int_rol, isT_int_dct, isT_bool_non, isT_bool_bl, isT_bool_int, isT_bool_str, isT_bool_tup, isT_bool_lst, isT_bool_rol, isT_bool_dct, isT_str_non, isT_str_bl, isT_str_int, isT_str_str, isT_str_tup, isT_str_lst, isT_str_rol, isT_str_dct, isT_tuple_non, isT_tuple_bl, isT_tuple_int, isT_tuple_str, isT_tuple_tup, isT_tuple_lst, isT_tuple_rol, isT_tuple_dct, isT_list_non, isT_list_bl, isT_list_int, isT_list_str, isT_list_tup, isT_list_lst, isT_list_rol, isT_list_dct, isT_dict_non, isT_dict_bl, isT_dict_int, isT_dict_str, isT_dict_tup, isT_dict_lst, isT_dict_rol, isT_dict_dct, truQ_non, truQ_bl, truQ_int, truQ_tup, truQ_lst, blQ_bl, lenD_tup, lenD_lst, lenD_rol, lenD_str, tupD_tup, tupD_lst, lstD_tup, lstD_lst, lstD_rol, intD_i, intD_b, boolD_i, boolD_b, ixD_tup, ixD_lst, ixD_rol, slD_lst, slD_tup, intQ_i, appD_1, extD_1, lsQ_own, lsQ_bor, gTp_t, gsCons_c, seqQ_t, seqQ_l, seqQ_r, hideS_fz, hideS_own, hideS_bor, hideS_no, mmQ_ii, atI_0, atI_1, atI_2, List.map_cons, List.map_nil, List.replicate, List.cons_append, List.nil_append, List.append_nil, List.set, List.length_cons, List.length_nil, decide_eq_true_eq, if_true, if_false, Bool.not_true, Bool.not_false, Bool.false_eq_true, and_true, true_and, List.nodup_cons, List.not_mem_nil, not_false_eq_true, List.nodup_nil, List.mem_cons, or_false, List.getD])
    all_goals exact hQ
  | k + 1, .lst ds, Q, ED, hY, hQ => by
    refine ⟨rfl, ?_⟩
    (try simp only [dSeq, dIfS, dRet, dRetN, dNext, dSet, dSetO, dDrop, dCall, callQ, dCallKw, dCons, dNil, dBor, dsQ, dTup, dLst, dV, dC, slot, dOp, dUn, dCmp, dCmpT, dChain, dChainT, dTru, dAnd, dOr, dNot, dAndV, dOrV, dNotV, dIf, dIsi, dNoO, dSoO, dSl, bodyQ, endsOf, outsOf, lents, putB, lentQ, dAsg, gNm, gsNil, iSeq, iRng, DL.iRng2, iEnm, dLm, dLm0, dPut, dMm, dYes, hQ, isSub, hideE, pick_0, pick_10, pick_210, rep2, kg, dFor, dLc, wipeD, restD, dPar, ixN3_0, ixN3_1, ixN3_2, ex_some, dRaise_1, dHeard_e, List.set_cons_zero, List.set_cons_succ, rdQ_fz, rdQ_own, rdQ_at, rdS_fz, rdS_own, rdS_bor, frzQ_fz, frzQ_own, frzQ_at, frS_fz, frS_own, nmQ_s, nmS_fz, nmS_own, nmS_bor, retQ_fz, retQ_own, retQ_at, rtS_fz, rtS_own, argsOf_at, argsOf_d, argsOf_n, lnS_own, lnS_bor, lnS_fz, reS_o, reS_b, setF_d, setO_own, setO_fz, setO_at, notBor_fz, notBor_own, notBor_no, isOwn_own, isOwn_bor, addD_ii, addD_ss, addD_ll, addD_tt, subD_ii, mulD_ii, mulD_li, mulD_ti, fdivD_ii, modD_ii, powD_ii, negD_i, ltD_ii, leD_ii, gtD_ii, geD_ii, isQ_n, isQ_b, nisQ_n, isN_non, isN_bl, isN_int, isN_str, isN_tup, isN_lst, isN_rol, isN_dct, isT_int_non, isT_int_bl, isT_int_int, isT_int_str, isT_int_tup, isT_int_lst, isT_int_rol, isT_int_dct, isT_bool_non, isT_bool_bl, isT_bool_int, isT_bool_str, isT_bool_tup, isT_bool_lst, isT_bool_rol, isT_bool_dct, isT_str_non, isT_str_bl, isT_str_int, isT_str_str, isT_str_tup, isT_str_lst, isT_str_rol, isT_str_dct, isT_tuple_non, isT_tuple_bl, isT_tuple_int, isT_tuple_str, isT_tuple_tup, isT_tuple_lst, isT_tuple_rol, isT_tuple_dct, isT_list_non, isT_list_bl, isT_list_int, isT_list_str, isT_list_tup, isT_list_lst, isT_list_rol, isT_list_dct, isT_dict_non, isT_dict_bl, isT_dict_int, isT_dict_str, isT_dict_tup, isT_dict_lst, isT_dict_rol, isT_dict_dct, truQ_non, truQ_bl, truQ_int, truQ_tup, truQ_lst, blQ_bl, lenD_tup, lenD_lst, lenD_rol, lenD_str, tupD_tup, tupD_lst, lstD_tup, lstD_lst, lstD_rol, intD_i, intD_b, boolD_i, boolD_b, ixD_tup, ixD_lst, ixD_rol, slD_lst, slD_tup, intQ_i, appD_1, extD_1, lsQ_own, lsQ_bor, gTp_t, gsCons_c, seqQ_t, seqQ_l, seqQ_r, hideS_fz, hideS_own, hideS_bor, hideS_no, mmQ_ii, atI_0, atI_1, atI_2, List.map_cons, List.map_nil, List.replicate, List.cons_append, List.nil_append, List.append_nil, List.set, List.length_cons, List.length_nil, decide_eq_true_eq, if_true, if_false, Bool.not_true, Bool.not_false, Bool.false_eq_true, and_true, true_and, List.nodup_cons, List.not_mem_nil, not_false_eq_true, List.nodup_nil, List.mem_cons, or_false, List.getD, td_yq_same])
    refine ⟨okD_bl, okD_bl, ?_⟩
    (try simp only [dSeq, dIfS, dRet, dRetN, dNext, dSet, dSetO, dDrop, dCall, callQ, dCallKw, dCons, dNil, dBor, dsQ, dTup, dLst, dV, dC, slot, dOp, dUn, dCmp, dCmpT, dChain, dChainT, dTru, dAnd, dOr, dNot, dAndV, dOrV, dNotV, dIf, dIsi, dNoO, dSoO, dSl, bodyQ, endsOf, outsOf, lents, putB, lentQ, dAsg, gNm, gsNil, iSeq, iRng, DL.iRng2, iEnm, dLm, dLm0, dPut, dMm, dYes, hQ, isSub, hideE, pick_0, pick_10, pick_210, rep2, kg, dFor, dLc, wipeD, restD, dPar, ixN3_0, ixN3_1, ixN3_2, ex_some, dRaise_1, dHeard_e, List.set_cons_zero, List.set_cons_succ, rdQ_fz, rdQ_own, rdQ_at, rdS_fz, rdS_own, rdS_bor, frzQ_fz, frzQ_own, frzQ_at, frS_fz, frS_own, nmQ_s, nmS_fz, nmS_own, nmS_bor, retQ_fz, retQ_own, retQ_at, rtS_fz, rtS_own, argsOf_at, argsOf_d, argsOf_n, lnS_own, lnS_bor, lnS_fz, reS_o, reS_b, setF_d, setO_own, setO_fz, setO_at, notBor_fz, notBor_own, notBor_no, isOwn_own, isOwn_bor, addD_ii, addD_ss, addD_ll, addD_tt, subD_ii, mulD_ii, mulD_li, mulD_ti, fdivD_ii, modD_ii, powD_ii, negD_i, ltD_ii, leD_ii, gtD_ii, geD_ii, isQ_n, isQ_b, nisQ_n, isN_non, isN_bl, isN_int, isN_str, isN_tup, isN_lst, isN_rol, isN_dct, isT_int_non, isT_int_bl, isT_int_int, isT_int_str, isT_int_tup, isT_int_lst, isT_int_rol, isT_int_dct, isT_bool_non, isT_bool_bl, isT_bool_int, isT_bool_str, isT_bool_tup, isT_bool_lst, isT_bool_rol, isT_bool_dct, isT_str_non, isT_str_bl, isT_str_int, isT_str_str, isT_str_tup, isT_str_lst, isT_str_rol, isT_str_dct, isT_tuple_non, isT_tuple_bl, isT_tuple_int, isT_tuple_str, isT_tuple_tup, isT_tuple_lst, isT_tuple_rol, isT_tuple_dct, isT_list_non, isT_list_bl, isT_list_int, isT_list_str, isT_list_tup, isT_list_lst, isT_list_rol, isT_list_dct, isT_dict_non, isT_dict_bl, isT_dict_int, isT_dict_str, isT_dict_tup, isT_dict_lst, isT_dict_rol, isT_dict_dct, truQ_non, truQ_bl, truQ_int, truQ_tup, truQ_lst, blQ_bl, lenD_tup, lenD_lst, lenD_rol, lenD_str, tupD_tup, tupD_lst, lstD_tup, lstD_lst, lstD_rol, intD_i, intD_b, boolD_i, boolD_b, ixD_tup, ixD_lst, ixD_rol, slD_lst, slD_tup, intQ_i, appD_1, extD_1, lsQ_own, lsQ_bor, gTp_t, gsCons_c, seqQ_t, seqQ_l, seqQ_r, hideS_fz, hideS_own, hideS_bor, hideS_no, mmQ_ii, atI_0, atI_1, atI_2, List.map_cons, List.map_nil, List.replicate, List.cons_append, List.nil_append, List.append_nil, List.set, List.length_cons, List.length_nil, decide_eq_true_eq, if_true, if_false, Bool.not_true, Bool.not_false, Bool.false_eq_true, and_true, true_and, List.nodup_cons, List.not_mem_nil, not_false_eq_true, List.nodup_nil, List.mem_cons, or_false, List.getD, eqD_bl, beq_self_eq_true])
    refine ⟨okD_bl, okD_bl, ?_⟩
    (try simp only [dSeq, dIfS, dRet, dRetN, dNext, dSet, dSetO, dDrop, dCall, callQ, dCallKw, dCons, dNil, dBor, dsQ, dTup, dLst, dV, dC, slot, dOp, dUn, dCmp, dCmpT, dChain, dChainT, dTru, dAnd, dOr, dNot, dAndV, dOrV, dNotV, dIf, dIsi, dNoO, dSoO, dSl, bodyQ, endsOf, outsOf, lents, putB, lentQ, dAsg, gNm, gsNil, iSeq, iRng, DL.iRng2, iEnm, dLm, dLm0, dPut, dMm, dYes, hQ, isSub, hideE, pick_0, pick_10, pick_210, rep2, kg, dFor, dLc, wipeD, restD, dPar, ixN3_0, ixN3_1, ixN3_2, ex_some, dRaise_1, dHeard_e, List.set_cons_zero, List.set_cons_succ, rdQ_fz, rdQ_own, rdQ_at, rdS_fz, rdS_own, rdS_bor, frzQ_fz, frzQ_own, frzQ_at, frS_fz, frS_own, nmQ_s, nmS_fz, nmS_own, nmS_bor, retQ_fz, retQ_own, retQ_at, rtS_fz, rtS_own, argsOf_at, argsOf_d, argsOf_n, lnS_own, lnS_bor, lnS_fz, reS_o, reS_b, setF_d, setO_own, setO_fz, setO_at, notBor_fz, notBor_own, notBor_no, isOwn_own, isOwn_bor, addD_ii, addD_ss, addD_ll, addD_tt, subD_ii, mulD_ii, mulD_li, mulD_ti, fdivD_ii, modD_ii, powD_ii, negD_i, ltD_ii, leD_ii, gtD_ii, geD_ii, isQ_n, isQ_b, nisQ_n, isN_non, isN_bl, isN_int, isN_str, isN_tup, isN_lst, isN_rol, isN_dct, isT_int_non, isT_int_bl, isT_int_int, isT_int_str, isT_int_tup, isT_int_lst, isT_int_rol, isT_int_dct, isT_bool_non, isT_bool_bl, isT_bool_int, isT_bool_str, isT_bool_tup, isT_bool_lst, isT_bool_rol, isT_bool_dct, isT_str_non, isT_str_bl, isT_str_int, isT_str_str, isT_str_tup, isT_str_lst, isT_str_rol, isT_str_dct, isT_tuple_non, isT_tuple_bl, isT_tuple_int, isT_tuple_str, isT_tuple_tup, isT_tuple_lst, isT_tuple_rol, isT_tuple_dct, isT_list_non, isT_list_bl, isT_list_int, isT_list_str, isT_list_tup, isT_list_lst, isT_list_rol, isT_list_dct, isT_dict_non, isT_dict_bl, isT_dict_int, isT_dict_str, isT_dict_tup, isT_dict_lst, isT_dict_rol, isT_dict_dct, truQ_non, truQ_bl, truQ_int, truQ_tup, truQ_lst, blQ_bl, lenD_tup, lenD_lst, lenD_rol, lenD_str, tupD_tup, tupD_lst, lstD_tup, lstD_lst, lstD_rol, intD_i, intD_b, boolD_i, boolD_b, ixD_tup, ixD_lst, ixD_rol, slD_lst, slD_tup, intQ_i, appD_1, extD_1, lsQ_own, lsQ_bor, gTp_t, gsCons_c, seqQ_t, seqQ_l, seqQ_r, hideS_fz, hideS_own, hideS_bor, hideS_no, mmQ_ii, atI_0, atI_1, atI_2, List.map_cons, List.map_nil, List.replicate, List.cons_append, List.nil_append, List.append_nil, List.set, List.length_cons, List.length_nil, decide_eq_true_eq, if_true, if_false, Bool.not_true, Bool.not_false, Bool.false_eq_true, and_true, true_and, List.nodup_cons, List.not_mem_nil, not_false_eq_true, List.nodup_nil, List.mem_cons, or_false, List.getD, eqD_bl, beq_self_eq_true])
    refine ⟨okD_int, okD_int, ?_⟩
    (try simp only [dSeq, dIfS, dRet, dRetN, dNext, dSet, dSetO, dDrop, dCall, callQ, dCallKw, dCons, dNil, dBor, dsQ, dTup, dLst, dV, dC, slot, dOp, dUn, dCmp, dCmpT, dChain, dChainT, dTru, dAnd, dOr, dNot, dAndV, dOrV, dNotV, dIf, dIsi, dNoO, dSoO, dSl, bodyQ, endsOf, outsOf, lents, putB, lentQ, dAsg, gNm, gsNil, iSeq, iRng, DL.iRng2, iEnm, dLm, dLm0, dPut, dMm, dYes, hQ, isSub, hideE, pick_0, pick_10, pick_210, rep2, kg, dFor, dLc, wipeD, restD, dPar, ixN3_0, ixN3_1, ixN3_2, ex_some, dRaise_1, dHeard_e, List.set_cons_zero, List.set_cons_succ, rdQ_fz, rdQ_own, rdQ_at, rdS_fz, rdS_own, rdS_bor, frzQ_fz, frzQ_own, frzQ_at, frS_fz, frS_own, nmQ_s, nmS_fz, nmS_own, nmS_bor, retQ_fz, retQ_own, retQ_at, rtS_fz, rtS_own, argsOf_at, argsOf_d, argsOf_n, lnS_own, lnS_bor, lnS_fz, reS_o, reS_b, setF_d, setO_own, setO_fz, setO_at, notBor_fz, notBor_own, notBor_no, isOwn_own, isOwn_bor, addD_ii, addD_ss, addD_ll, addD_tt, subD_ii, mulD_ii, mulD_li, mulD_ti, fdivD_ii, modD_ii, powD_ii, negD_i, ltD_ii, leD_ii, gtD_ii, geD_ii, isQ_n, isQ_b, nisQ_n, isN_non, isN_bl, isN_int, isN_str, isN_tup, isN_lst, isN_rol, isN_dct, isT_int_non, isT_int_bl, isT_int_int, isT_int_str, isT_int_tup, isT_int_lst, isT_int_rol, isT_int_dct, isT_bool_non, isT_bool_bl, isT_bool_int, isT_bool_str, isT_bool_tup, isT_bool_lst, isT_bool_rol, isT_bool_dct, isT_str_non, isT_str_bl, isT_str_int, isT_str_str, isT_str_tup, isT_str_lst, isT_str_rol, isT_str_dct, isT_tuple_non, isT_tuple_bl, isT_tuple_int, isT_tuple_str, isT_tuple_tup, isT_tuple_lst, isT_tuple_rol, isT_tuple_dct, isT_list_non, isT_list_bl, isT_list_int, isT_list_str, isT_list_tup, isT_list_lst, isT_list_rol, isT_list_dct, isT_dict_non, isT_dict_bl, isT_dict_int, isT_dict_str, isT_dict_tup, isT_dict_lst, isT_dict_rol, isT_dict_dct, truQ_non, truQ_bl, truQ_int, truQ_tup, truQ_lst, blQ_bl, lenD_tup, lenD_lst, lenD_rol, lenD_str, tupD_tup, tupD_lst, lstD_tup, lstD_lst, lstD_rol, intD_i, intD_b, boolD_i, boolD_b, ixD_tup, ixD_lst, ixD_rol, slD_lst, slD_tup, intQ_i, appD_1, extD_1, lsQ_own, lsQ_bor, gTp_t, gsCons_c, seqQ_t, seqQ_l, seqQ_r, hideS_fz, hideS_own, hideS_bor, hideS_no, mmQ_ii, atI_0, atI_1, atI_2, List.map_cons, List.map_nil, List.replicate, List.cons_append, List.nil_append, List.append_nil, List.set, List.length_cons, List.length_nil, decide_eq_true_eq, if_true, if_false, Bool.not_true, Bool.not_false, Bool.false_eq_true, and_true, true_and, List.nodup_cons, List.not_mem_nil, not_false_eq_true, List.nodup_nil, List.mem_cons, or_false, List.getD, eqD_int, beq_self_eq_true])
    refine ⟨lenZ hY.1, ?_⟩
    rw [show ((ds.length : Nat) : Int).toNat = ds.length by omega, rngD_0]
    refine same_seq (k := k + 1) (fun e he Q ED hq => w_same k e Q ED (hY.2 e he) hq) (.inr rfl) _ rfl (fun s => ?_) 0 ds .no rfl rfl
    (try simp only [dSeq, dIfS, dRet, dRetN, dNext, dSet, dSetO, dDrop, dCall, callQ, dCallKw, dCons, dNil, dBor, dsQ, dTup, dLst, dV, dC, slot, dOp, dUn, dCmp, dCmpT, dChain, dChainT, dTru, dAnd, dOr, dNot, dAndV, dOrV, dNotV, dIf, dIsi, dNoO, dSoO, dSl, bodyQ, endsOf, outsOf, lents, putB, lentQ, dAsg, gNm, gsNil, iSeq, iRng, DL.iRng2, iEnm, dLm, dLm0, dPut, dMm, dYes, hQ, isSub, hideE, pick_0, pick_10, pick_210, rep2, kg, dFor, dLc, wipeD, restD, dPar, ixN3_0, ixN3_1, ixN3_2, ex_some, dRaise_1, dHeard_e, List.set_cons_zero, List.set_cons_succ, rdQ_fz, rdQ_own, rdQ_at, rdS_fz, rdS_own, rdS_bor, frzQ_fz, frzQ_own, frzQ_at, frS_fz, frS_own, nmQ_s, nmS_fz, nmS_own, nmS_bor, retQ_fz, retQ_own, retQ_at, rtS_fz, rtS_own, argsOf_at, argsOf_d, argsOf_n, lnS_own, lnS_bor, lnS_fz, reS_o, reS_b, setF_d, setO_own, setO_fz, setO_at, notBor_fz, notBor_own, notBor_no, isOwn_own, isOwn_bor, addD_ii, addD_ss, addD_ll, addD_tt, subD_ii, mulD_ii, mulD_li, mulD_ti, fdivD_ii, modD_ii, powD_ii, negD_i, ltD_ii, leD_ii, gtD_ii, geD_ii, isQ_n, isQ_b, nisQ_n, isN_non, isN_bl, isN_int, isN_str, isN_tup, isN_lst, isN_rol, isN_dct, isT_int_non, isT_int_bl, isT_int_int, isT_int_str, isT_int_tup, isT_int_lst, isT_int_rol, isT_int_dct, isT_bool_non, isT_bool_bl, isT_bool_int, isT_bool_str, isT_bool_tup, isT_bool_lst, isT_bool_rol, isT_bool_dct, isT_str_non, isT_str_bl, isT_str_int, isT_str_str, isT_str_tup, isT_str_lst, isT_str_rol, isT_str_dct, isT_tuple_non, isT_tuple_bl, isT_tuple_int, isT_tuple_str, isT_tuple_tup, isT_tuple_lst, isT_tuple_rol, isT_tuple_dct, isT_list_non, isT_list_bl, isT_list_int, isT_list_str, isT_list_tup, isT_list_lst, isT_list_rol, isT_list_dct, isT_dict_non, isT_dict_bl, isT_dict_int, isT_dict_str, isT_dict_tup, isT_dict_lst, isT_dict_rol, isT_dict_dct, truQ_non, truQ_bl, truQ_int, truQ_tup, truQ_lst, blQ_bl, lenD_tup, lenD_lst, lenD_rol, lenD_str, tupD_tup, tupD_lst, lstD_tup, lstD_lst, lstD_rol, intD_i, intD_b, boolD_i, boolD_b, ixD_tup, ixD_lst, ixD_rol, slD_lst, slD_tup, intQ_i, appD_1, extD_1, lsQ_own, lsQ_bor, gTp_t, gsCons_c, seqQ_t, seqQ_l, seqQ_r, hideS_fz, hideS_own, hideS_bor, hideS_no, mmQ_ii, atI_0, atI_1, atI_2, List.map_cons, List.map_nil, List.replicate, List.cons_append, List.nil_append, List.append_nil, List.set, List.length_cons, List.length_nil, decide_eq_true_eq, if_true, if_false, Bool.not_true, Bool.not_false, Bool.false_eq_true, and_true, true_and, List.nodup_cons, List.not_mem_nil, not_false_eq_true, List.nodup_nil, List.mem_cons, or_false, List.getD])
    all_goals exact hQ
  | 0, .rol _, _, _, h, _ => h.elim
  | _ + 1, .rol _, _, _, h, _ => h.elim
  | 0, .dct _ _, _, _, h, _ => h.elim
  | _ + 1, .dct _ _, _, _, h, _ => h.elim
def tS (d : D) : D := if isN (wsD d) = true then .tup [.str "told", d] else .tup [.str "BadSizes", wsD d]
theorem hh1 (k : Str → Prop) : DL.hQ hs_heard 1 k = k "BadSizes" := rfl
theorem hh2 (k : Str → Prop) : DL.hQ hs_heard 2 k = k "BadPage" := rfl
theorem w_sizes_told {d : D} {Q : Rv → List OC → Prop} {ED : Nat → D → Prop} (h0 : Q (.own (.lst [tS d, tS d, .tup [.str "told", .bl (isN (wsD d))]])) []) : sp_sizes_told [.fz d] Q ED := by
  refine ⟨rfl, ?_⟩
  (try simp only [dSeq, dIfS, dRet, dRetN, dNext, dSet, dSetO, dDrop, dCall, callQ, dCallKw, dCons, dNil, dBor, dsQ, dTup, dLst, dV, dC, slot, dOp, dUn, dCmp, dCmpT, dChain, dChainT, dTru, dAnd, dOr, dNot, dAndV, dOrV, dNotV, dIf, dIsi, dNoO, dSoO, dSl, bodyQ, endsOf, outsOf, lents, putB, lentQ, dAsg, gNm, gsNil, iSeq, iRng, DL.iRng2, iEnm, dLm, dLm0, dPut, dMm, dYes, hQ, isSub, hideE, pick_0, pick_10, pick_210, rep2, kg, dFor, dLc, wipeD, restD, dPar, ixN3_0, ixN3_1, ixN3_2, ex_some, dRaise_1, dHeard_e, List.set_cons_zero, List.set_cons_succ, rdQ_fz, rdQ_own, rdQ_at, rdS_fz, rdS_own, rdS_bor, frzQ_fz, frzQ_own, frzQ_at, frS_fz, frS_own, nmQ_s, nmS_fz, nmS_own, nmS_bor, retQ_fz, retQ_own, retQ_at, rtS_fz, rtS_own, argsOf_at, argsOf_d, argsOf_n, lnS_own, lnS_bor, lnS_fz, reS_o, reS_b, setF_d, setO_own, setO_fz, setO_at, notBor_fz, notBor_own, notBor_no, isOwn_own, isOwn_bor, addD_ii, addD_ss, addD_ll, addD_tt, subD_ii, mulD_ii, mulD_li, mulD_ti, fdivD_ii, modD_ii, powD_ii, negD_i, ltD_ii, leD_ii, gtD_ii, geD_ii, isQ_n, isQ_b, nisQ_n, isN_non, isN_bl, isN_int, isN_str, isN_tup, isN_lst, isN_rol, isN_dct, isT_int_non, isT_int_bl, isT_int_int, isT_int_str, isT_int_tup, isT_int_lst, isT_int_rol, isT_int_dct, isT_bool_non, isT_bool_bl, isT_bool_int, isT_bool_str, isT_bool_tup, isT_bool_lst, isT_bool_rol, isT_bool_dct, isT_str_non, isT_str_bl, isT_str_int, isT_str_str, isT_str_tup, isT_str_lst, isT_str_rol, isT_str_dct, isT_tuple_non, isT_tuple_bl, isT_tuple_int, isT_tuple_str, isT_tuple_tup, isT_tuple_lst, isT_tuple_rol, isT_tuple_dct, isT_list_non, isT_list_bl, isT_list_int, isT_list_str, isT_list_tup, isT_list_lst, isT_list_rol, isT_list_dct, isT_dict_non, isT_dict_bl, isT_dict_int, isT_dict_str, isT_dict_tup, isT_dict_lst, isT_dict_rol, isT_dict_dct, truQ_non, truQ_bl, truQ_int, truQ_tup, truQ_lst, blQ_bl, lenD_tup, lenD_lst, lenD_rol, lenD_str, tupD_tup, tupD_lst, lstD_tup, lstD_lst, lstD_rol, intD_i, intD_b, boolD_i, boolD_b, ixD_tup, ixD_lst, ixD_rol, slD_lst, slD_tup, intQ_i, appD_1, extD_1, lsQ_own, lsQ_bor, gTp_t, gsCons_c, seqQ_t, seqQ_l, seqQ_r, hideS_fz, hideS_own, hideS_bor, hideS_no, mmQ_ii, atI_0, atI_1, atI_2, List.map_cons, List.map_nil, List.replicate, List.cons_append, List.nil_append, List.append_nil, List.set, List.length_cons, List.length_nil, decide_eq_true_eq, if_true, if_false, Bool.not_true, Bool.not_false, Bool.false_eq_true, and_true, true_and, List.nodup_cons, List.not_mem_nil, not_false_eq_true, List.nodup_nil, List.mem_cons, or_false, List.getD, td_sizes_told])
  by_cases c : isN (wsD d) = true
  · have e : tS d = .tup [.str "told", d] := by unfold tS; rw [if_pos c]
    rw [e] at h0
    refine ⟨(by simp [lents, slot, Sl.isOwn]), w_made_sizes ?_⟩
    rw [if_pos c]
    (try simp only [dSeq, dIfS, dRet, dRetN, dNext, dSet, dSetO, dDrop, dCall, callQ, dCallKw, dCons, dNil, dBor, dsQ, dTup, dLst, dV, dC, slot, dOp, dUn, dCmp, dCmpT, dChain, dChainT, dTru, dAnd, dOr, dNot, dAndV, dOrV, dNotV, dIf, dIsi, dNoO, dSoO, dSl, bodyQ, endsOf, outsOf, lents, putB, lentQ, dAsg, gNm, gsNil, iSeq, iRng, DL.iRng2, iEnm, dLm, dLm0, dPut, dMm, dYes, hQ, isSub, hideE, pick_0, pick_10, pick_210, rep2, kg, dFor, dLc, wipeD, restD, dPar, ixN3_0, ixN3_1, ixN3_2, ex_some, dRaise_1, dHeard_e, List.set_cons_zero, List.set_cons_succ, rdQ_fz, rdQ_own, rdQ_at, rdS_fz, rdS_own, rdS_bor, frzQ_fz, frzQ_own, frzQ_at, frS_fz, frS_own, nmQ_s, nmS_fz, nmS_own, nmS_bor, retQ_fz, retQ_own, retQ_at, rtS_fz, rtS_own, argsOf_at, argsOf_d, argsOf_n, lnS_own, lnS_bor, lnS_fz, reS_o, reS_b, setF_d, setO_own, setO_fz, setO_at, notBor_fz, notBor_own, notBor_no, isOwn_own, isOwn_bor, addD_ii, addD_ss, addD_ll, addD_tt, subD_ii, mulD_ii, mulD_li, mulD_ti, fdivD_ii, modD_ii, powD_ii, negD_i, ltD_ii, leD_ii, gtD_ii, geD_ii, isQ_n, isQ_b, nisQ_n, isN_non, isN_bl, isN_int, isN_str, isN_tup, isN_lst, isN_rol, isN_dct, isT_int_non, isT_int_bl, isT_int_int, isT_int_str, isT_int_tup, isT_int_lst, isT_int_rol, isT_int_dct, isT_bool_non, isT_bool_bl, isT_bool_int, isT_bool_str, isT_bool_tup, isT_bool_lst, isT_bool_rol, isT_bool_dct, isT_str_non, isT_str_bl, isT_str_int, isT_str_str, isT_str_tup, isT_str_lst, isT_str_rol, isT_str_dct, isT_tuple_non, isT_tuple_bl, isT_tuple_int, isT_tuple_str, isT_tuple_tup, isT_tuple_lst, isT_tuple_rol, isT_tuple_dct, isT_list_non, isT_list_bl, isT_list_int, isT_list_str, isT_list_tup, isT_list_lst, isT_list_rol, isT_list_dct, isT_dict_non, isT_dict_bl, isT_dict_int, isT_dict_str, isT_dict_tup, isT_dict_lst, isT_dict_rol, isT_dict_dct, truQ_non, truQ_bl, truQ_int, truQ_tup, truQ_lst, blQ_bl, lenD_tup, lenD_lst, lenD_rol, lenD_str, tupD_tup, tupD_lst, lstD_tup, lstD_lst, lstD_rol, intD_i, intD_b, boolD_i, boolD_b, ixD_tup, ixD_lst, ixD_rol, slD_lst, slD_tup, intQ_i, appD_1, extD_1, lsQ_own, lsQ_bor, gTp_t, gsCons_c, seqQ_t, seqQ_l, seqQ_r, hideS_fz, hideS_own, hideS_bor, hideS_no, mmQ_ii, atI_0, atI_1, atI_2, List.map_cons, List.map_nil, List.replicate, List.cons_append, List.nil_append, List.append_nil, List.set, List.length_cons, List.length_nil, decide_eq_true_eq, if_true, if_false, Bool.not_true, Bool.not_false, Bool.false_eq_true, and_true, true_and, List.nodup_cons, List.not_mem_nil, not_false_eq_true, List.nodup_nil, List.mem_cons, or_false, List.getD])
    refine ⟨(by rw [sizeLine_eq]; omega), (by simp [lents, slot, Sl.isOwn]), w_made_sizes ?_⟩
    rw [if_pos c]
    (try simp only [dSeq, dIfS, dRet, dRetN, dNext, dSet, dSetO, dDrop, dCall, callQ, dCallKw, dCons, dNil, dBor, dsQ, dTup, dLst, dV, dC, slot, dOp, dUn, dCmp, dCmpT, dChain, dChainT, dTru, dAnd, dOr, dNot, dAndV, dOrV, dNotV, dIf, dIsi, dNoO, dSoO, dSl, bodyQ, endsOf, outsOf, lents, putB, lentQ, dAsg, gNm, gsNil, iSeq, iRng, DL.iRng2, iEnm, dLm, dLm0, dPut, dMm, dYes, hQ, isSub, hideE, pick_0, pick_10, pick_210, rep2, kg, dFor, dLc, wipeD, restD, dPar, ixN3_0, ixN3_1, ixN3_2, ex_some, dRaise_1, dHeard_e, List.set_cons_zero, List.set_cons_succ, rdQ_fz, rdQ_own, rdQ_at, rdS_fz, rdS_own, rdS_bor, frzQ_fz, frzQ_own, frzQ_at, frS_fz, frS_own, nmQ_s, nmS_fz, nmS_own, nmS_bor, retQ_fz, retQ_own, retQ_at, rtS_fz, rtS_own, argsOf_at, argsOf_d, argsOf_n, lnS_own, lnS_bor, lnS_fz, reS_o, reS_b, setF_d, setO_own, setO_fz, setO_at, notBor_fz, notBor_own, notBor_no, isOwn_own, isOwn_bor, addD_ii, addD_ss, addD_ll, addD_tt, subD_ii, mulD_ii, mulD_li, mulD_ti, fdivD_ii, modD_ii, powD_ii, negD_i, ltD_ii, leD_ii, gtD_ii, geD_ii, isQ_n, isQ_b, nisQ_n, isN_non, isN_bl, isN_int, isN_str, isN_tup, isN_lst, isN_rol, isN_dct, isT_int_non, isT_int_bl, isT_int_int, isT_int_str, isT_int_tup, isT_int_lst, isT_int_rol, isT_int_dct, isT_bool_non, isT_bool_bl, isT_bool_int, isT_bool_str, isT_bool_tup, isT_bool_lst, isT_bool_rol, isT_bool_dct, isT_str_non, isT_str_bl, isT_str_int, isT_str_str, isT_str_tup, isT_str_lst, isT_str_rol, isT_str_dct, isT_tuple_non, isT_tuple_bl, isT_tuple_int, isT_tuple_str, isT_tuple_tup, isT_tuple_lst, isT_tuple_rol, isT_tuple_dct, isT_list_non, isT_list_bl, isT_list_int, isT_list_str, isT_list_tup, isT_list_lst, isT_list_rol, isT_list_dct, isT_dict_non, isT_dict_bl, isT_dict_int, isT_dict_str, isT_dict_tup, isT_dict_lst, isT_dict_rol, isT_dict_dct, truQ_non, truQ_bl, truQ_int, truQ_tup, truQ_lst, blQ_bl, lenD_tup, lenD_lst, lenD_rol, lenD_str, tupD_tup, tupD_lst, lstD_tup, lstD_lst, lstD_rol, intD_i, intD_b, boolD_i, boolD_b, ixD_tup, ixD_lst, ixD_rol, slD_lst, slD_tup, intQ_i, appD_1, extD_1, lsQ_own, lsQ_bor, gTp_t, gsCons_c, seqQ_t, seqQ_l, seqQ_r, hideS_fz, hideS_own, hideS_bor, hideS_no, mmQ_ii, atI_0, atI_1, atI_2, List.map_cons, List.map_nil, List.replicate, List.cons_append, List.nil_append, List.append_nil, List.set, List.length_cons, List.length_nil, decide_eq_true_eq, if_true, if_false, Bool.not_true, Bool.not_false, Bool.false_eq_true, and_true, true_and, List.nodup_cons, List.not_mem_nil, not_false_eq_true, List.nodup_nil, List.mem_cons, or_false, List.getD])
    refine ⟨(by rw [sizeLine_eq]; omega), (by simp [lents, slot, Sl.isOwn]), w_is_sizes ?_⟩
    (try simp only [dSeq, dIfS, dRet, dRetN, dNext, dSet, dSetO, dDrop, dCall, callQ, dCallKw, dCons, dNil, dBor, dsQ, dTup, dLst, dV, dC, slot, dOp, dUn, dCmp, dCmpT, dChain, dChainT, dTru, dAnd, dOr, dNot, dAndV, dOrV, dNotV, dIf, dIsi, dNoO, dSoO, dSl, bodyQ, endsOf, outsOf, lents, putB, lentQ, dAsg, gNm, gsNil, iSeq, iRng, DL.iRng2, iEnm, dLm, dLm0, dPut, dMm, dYes, hQ, isSub, hideE, pick_0, pick_10, pick_210, rep2, kg, dFor, dLc, wipeD, restD, dPar, ixN3_0, ixN3_1, ixN3_2, ex_some, dRaise_1, dHeard_e, List.set_cons_zero, List.set_cons_succ, rdQ_fz, rdQ_own, rdQ_at, rdS_fz, rdS_own, rdS_bor, frzQ_fz, frzQ_own, frzQ_at, frS_fz, frS_own, nmQ_s, nmS_fz, nmS_own, nmS_bor, retQ_fz, retQ_own, retQ_at, rtS_fz, rtS_own, argsOf_at, argsOf_d, argsOf_n, lnS_own, lnS_bor, lnS_fz, reS_o, reS_b, setF_d, setO_own, setO_fz, setO_at, notBor_fz, notBor_own, notBor_no, isOwn_own, isOwn_bor, addD_ii, addD_ss, addD_ll, addD_tt, subD_ii, mulD_ii, mulD_li, mulD_ti, fdivD_ii, modD_ii, powD_ii, negD_i, ltD_ii, leD_ii, gtD_ii, geD_ii, isQ_n, isQ_b, nisQ_n, isN_non, isN_bl, isN_int, isN_str, isN_tup, isN_lst, isN_rol, isN_dct, isT_int_non, isT_int_bl, isT_int_int, isT_int_str, isT_int_tup, isT_int_lst, isT_int_rol, isT_int_dct, isT_bool_non, isT_bool_bl, isT_bool_int, isT_bool_str, isT_bool_tup, isT_bool_lst, isT_bool_rol, isT_bool_dct, isT_str_non, isT_str_bl, isT_str_int, isT_str_str, isT_str_tup, isT_str_lst, isT_str_rol, isT_str_dct, isT_tuple_non, isT_tuple_bl, isT_tuple_int, isT_tuple_str, isT_tuple_tup, isT_tuple_lst, isT_tuple_rol, isT_tuple_dct, isT_list_non, isT_list_bl, isT_list_int, isT_list_str, isT_list_tup, isT_list_lst, isT_list_rol, isT_list_dct, isT_dict_non, isT_dict_bl, isT_dict_int, isT_dict_str, isT_dict_tup, isT_dict_lst, isT_dict_rol, isT_dict_dct, truQ_non, truQ_bl, truQ_int, truQ_tup, truQ_lst, blQ_bl, lenD_tup, lenD_lst, lenD_rol, lenD_str, tupD_tup, tupD_lst, lstD_tup, lstD_lst, lstD_rol, intD_i, intD_b, boolD_i, boolD_b, ixD_tup, ixD_lst, ixD_rol, slD_lst, slD_tup, intQ_i, appD_1, extD_1, lsQ_own, lsQ_bor, gTp_t, gsCons_c, seqQ_t, seqQ_l, seqQ_r, hideS_fz, hideS_own, hideS_bor, hideS_no, mmQ_ii, atI_0, atI_1, atI_2, List.map_cons, List.map_nil, List.replicate, List.cons_append, List.nil_append, List.append_nil, List.set, List.length_cons, List.length_nil, decide_eq_true_eq, if_true, if_false, Bool.not_true, Bool.not_false, Bool.false_eq_true, and_true, true_and, List.nodup_cons, List.not_mem_nil, not_false_eq_true, List.nodup_nil, List.mem_cons, or_false, List.getD])
    exact ⟨(by rw [sizeLine_eq]; omega), (by rw [sizeLine_eq]; omega), h0⟩
  · have e : tS d = .tup [.str "BadSizes", wsD d] := by unfold tS; rw [if_neg c]
    rw [e] at h0
    refine ⟨(by simp [lents, slot, Sl.isOwn]), w_made_sizes ?_⟩
    rw [if_neg c]
    (try simp only [dSeq, dIfS, dRet, dRetN, dNext, dSet, dSetO, dDrop, dCall, callQ, dCallKw, dCons, dNil, dBor, dsQ, dTup, dLst, dV, dC, slot, dOp, dUn, dCmp, dCmpT, dChain, dChainT, dTru, dAnd, dOr, dNot, dAndV, dOrV, dNotV, dIf, dIsi, dNoO, dSoO, dSl, bodyQ, endsOf, outsOf, lents, putB, lentQ, dAsg, gNm, gsNil, iSeq, iRng, DL.iRng2, iEnm, dLm, dLm0, dPut, dMm, dYes, hQ, isSub, hideE, pick_0, pick_10, pick_210, rep2, kg, dFor, dLc, wipeD, restD, dPar, ixN3_0, ixN3_1, ixN3_2, ex_some, dRaise_1, dHeard_e, List.set_cons_zero, List.set_cons_succ, rdQ_fz, rdQ_own, rdQ_at, rdS_fz, rdS_own, rdS_bor, frzQ_fz, frzQ_own, frzQ_at, frS_fz, frS_own, nmQ_s, nmS_fz, nmS_own, nmS_bor, retQ_fz, retQ_own, retQ_at, rtS_fz, rtS_own, argsOf_at, argsOf_d, argsOf_n, lnS_own, lnS_bor, lnS_fz, reS_o, reS_b, setF_d, setO_own, setO_fz, setO_at, notBor_fz, notBor_own, notBor_no, isOwn_own, isOwn_bor, addD_ii, addD_ss, addD_ll, addD_tt, subD_ii, mulD_ii, mulD_li, mulD_ti, fdivD_ii, modD_ii, powD_ii, negD_i, ltD_ii, leD_ii, gtD_ii, geD_ii, isQ_n, isQ_b, nisQ_n, isN_non, isN_bl, isN_int, isN_str, isN_tup, isN_lst, isN_rol, isN_dct, isT_int_non, isT_int_bl, isT_int_int, isT_int_str, isT_int_tup, isT_int_lst, isT_int_rol, isT_int_dct, isT_bool_non, isT_bool_bl, isT_bool_int, isT_bool_str, isT_bool_tup, isT_bool_lst, isT_bool_rol, isT_bool_dct, isT_str_non, isT_str_bl, isT_str_int, isT_str_str, isT_str_tup, isT_str_lst, isT_str_rol, isT_str_dct, isT_tuple_non, isT_tuple_bl, isT_tuple_int, isT_tuple_str, isT_tuple_tup, isT_tuple_lst, isT_tuple_rol, isT_tuple_dct, isT_list_non, isT_list_bl, isT_list_int, isT_list_str, isT_list_tup, isT_list_lst, isT_list_rol, isT_list_dct, isT_dict_non, isT_dict_bl, isT_dict_int, isT_dict_str, isT_dict_tup, isT_dict_lst, isT_dict_rol, isT_dict_dct, truQ_non, truQ_bl, truQ_int, truQ_tup, truQ_lst, blQ_bl, lenD_tup, lenD_lst, lenD_rol, lenD_str, tupD_tup, tupD_lst, lstD_tup, lstD_lst, lstD_rol, intD_i, intD_b, boolD_i, boolD_b, ixD_tup, ixD_lst, ixD_rol, slD_lst, slD_tup, intQ_i, appD_1, extD_1, lsQ_own, lsQ_bor, gTp_t, gsCons_c, seqQ_t, seqQ_l, seqQ_r, hideS_fz, hideS_own, hideS_bor, hideS_no, mmQ_ii, atI_0, atI_1, atI_2, List.map_cons, List.map_nil, List.replicate, List.cons_append, List.nil_append, List.append_nil, List.set, List.length_cons, List.length_nil, decide_eq_true_eq, if_true, if_false, Bool.not_true, Bool.not_false, Bool.false_eq_true, and_true, true_and, List.nodup_cons, List.not_mem_nil, not_false_eq_true, List.nodup_nil, List.mem_cons, or_false, List.getD, hh1])
    refine ⟨(by rw [sizeLine_eq]; omega), (by simp [lents, slot, Sl.isOwn]), w_made_sizes ?_⟩
    rw [if_neg c]
    (try simp only [dSeq, dIfS, dRet, dRetN, dNext, dSet, dSetO, dDrop, dCall, callQ, dCallKw, dCons, dNil, dBor, dsQ, dTup, dLst, dV, dC, slot, dOp, dUn, dCmp, dCmpT, dChain, dChainT, dTru, dAnd, dOr, dNot, dAndV, dOrV, dNotV, dIf, dIsi, dNoO, dSoO, dSl, bodyQ, endsOf, outsOf, lents, putB, lentQ, dAsg, gNm, gsNil, iSeq, iRng, DL.iRng2, iEnm, dLm, dLm0, dPut, dMm, dYes, hQ, isSub, hideE, pick_0, pick_10, pick_210, rep2, kg, dFor, dLc, wipeD, restD, dPar, ixN3_0, ixN3_1, ixN3_2, ex_some, dRaise_1, dHeard_e, List.set_cons_zero, List.set_cons_succ, rdQ_fz, rdQ_own, rdQ_at, rdS_fz, rdS_own, rdS_bor, frzQ_fz, frzQ_own, frzQ_at, frS_fz, frS_own, nmQ_s, nmS_fz, nmS_own, nmS_bor, retQ_fz, retQ_own, retQ_at, rtS_fz, rtS_own, argsOf_at, argsOf_d, argsOf_n, lnS_own, lnS_bor, lnS_fz, reS_o, reS_b, setF_d, setO_own, setO_fz, setO_at, notBor_fz, notBor_own, notBor_no, isOwn_own, isOwn_bor, addD_ii, addD_ss, addD_ll, addD_tt, subD_ii, mulD_ii, mulD_li, mulD_ti, fdivD_ii, modD_ii, powD_ii, negD_i, ltD_ii, leD_ii, gtD_ii, geD_ii, isQ_n, isQ_b, nisQ_n, isN_non, isN_bl, isN_int, isN_str, isN_tup, isN_lst, isN_rol, isN_dct, isT_int_non, isT_int_bl, isT_int_int, isT_int_str, isT_int_tup, isT_int_lst, isT_int_rol, isT_int_dct, isT_bool_non, isT_bool_bl, isT_bool_int, isT_bool_str, isT_bool_tup, isT_bool_lst, isT_bool_rol, isT_bool_dct, isT_str_non, isT_str_bl, isT_str_int, isT_str_str, isT_str_tup, isT_str_lst, isT_str_rol, isT_str_dct, isT_tuple_non, isT_tuple_bl, isT_tuple_int, isT_tuple_str, isT_tuple_tup, isT_tuple_lst, isT_tuple_rol, isT_tuple_dct, isT_list_non, isT_list_bl, isT_list_int, isT_list_str, isT_list_tup, isT_list_lst, isT_list_rol, isT_list_dct, isT_dict_non, isT_dict_bl, isT_dict_int, isT_dict_str, isT_dict_tup, isT_dict_lst, isT_dict_rol, isT_dict_dct, truQ_non, truQ_bl, truQ_int, truQ_tup, truQ_lst, blQ_bl, lenD_tup, lenD_lst, lenD_rol, lenD_str, tupD_tup, tupD_lst, lstD_tup, lstD_lst, lstD_rol, intD_i, intD_b, boolD_i, boolD_b, ixD_tup, ixD_lst, ixD_rol, slD_lst, slD_tup, intQ_i, appD_1, extD_1, lsQ_own, lsQ_bor, gTp_t, gsCons_c, seqQ_t, seqQ_l, seqQ_r, hideS_fz, hideS_own, hideS_bor, hideS_no, mmQ_ii, atI_0, atI_1, atI_2, List.map_cons, List.map_nil, List.replicate, List.cons_append, List.nil_append, List.append_nil, List.set, List.length_cons, List.length_nil, decide_eq_true_eq, if_true, if_false, Bool.not_true, Bool.not_false, Bool.false_eq_true, and_true, true_and, List.nodup_cons, List.not_mem_nil, not_false_eq_true, List.nodup_nil, List.mem_cons, or_false, List.getD, hh1])
    refine ⟨(by rw [sizeLine_eq]; omega), (by simp [lents, slot, Sl.isOwn]), w_is_sizes ?_⟩
    (try simp only [dSeq, dIfS, dRet, dRetN, dNext, dSet, dSetO, dDrop, dCall, callQ, dCallKw, dCons, dNil, dBor, dsQ, dTup, dLst, dV, dC, slot, dOp, dUn, dCmp, dCmpT, dChain, dChainT, dTru, dAnd, dOr, dNot, dAndV, dOrV, dNotV, dIf, dIsi, dNoO, dSoO, dSl, bodyQ, endsOf, outsOf, lents, putB, lentQ, dAsg, gNm, gsNil, iSeq, iRng, DL.iRng2, iEnm, dLm, dLm0, dPut, dMm, dYes, hQ, isSub, hideE, pick_0, pick_10, pick_210, rep2, kg, dFor, dLc, wipeD, restD, dPar, ixN3_0, ixN3_1, ixN3_2, ex_some, dRaise_1, dHeard_e, List.set_cons_zero, List.set_cons_succ, rdQ_fz, rdQ_own, rdQ_at, rdS_fz, rdS_own, rdS_bor, frzQ_fz, frzQ_own, frzQ_at, frS_fz, frS_own, nmQ_s, nmS_fz, nmS_own, nmS_bor, retQ_fz, retQ_own, retQ_at, rtS_fz, rtS_own, argsOf_at, argsOf_d, argsOf_n, lnS_own, lnS_bor, lnS_fz, reS_o, reS_b, setF_d, setO_own, setO_fz, setO_at, notBor_fz, notBor_own, notBor_no, isOwn_own, isOwn_bor, addD_ii, addD_ss, addD_ll, addD_tt, subD_ii, mulD_ii, mulD_li, mulD_ti, fdivD_ii, modD_ii, powD_ii, negD_i, ltD_ii, leD_ii, gtD_ii, geD_ii, isQ_n, isQ_b, nisQ_n, isN_non, isN_bl, isN_int, isN_str, isN_tup, isN_lst, isN_rol, isN_dct, isT_int_non, isT_int_bl, isT_int_int, isT_int_str, isT_int_tup, isT_int_lst, isT_int_rol, isT_int_dct, isT_bool_non, isT_bool_bl, isT_bool_int, isT_bool_str, isT_bool_tup, isT_bool_lst, isT_bool_rol, isT_bool_dct, isT_str_non, isT_str_bl, isT_str_int, isT_str_str, isT_str_tup, isT_str_lst, isT_str_rol, isT_str_dct, isT_tuple_non, isT_tuple_bl, isT_tuple_int, isT_tuple_str, isT_tuple_tup, isT_tuple_lst, isT_tuple_rol, isT_tuple_dct, isT_list_non, isT_list_bl, isT_list_int, isT_list_str, isT_list_tup, isT_list_lst, isT_list_rol, isT_list_dct, isT_dict_non, isT_dict_bl, isT_dict_int, isT_dict_str, isT_dict_tup, isT_dict_lst, isT_dict_rol, isT_dict_dct, truQ_non, truQ_bl, truQ_int, truQ_tup, truQ_lst, blQ_bl, lenD_tup, lenD_lst, lenD_rol, lenD_str, tupD_tup, tupD_lst, lstD_tup, lstD_lst, lstD_rol, intD_i, intD_b, boolD_i, boolD_b, ixD_tup, ixD_lst, ixD_rol, slD_lst, slD_tup, intQ_i, appD_1, extD_1, lsQ_own, lsQ_bor, gTp_t, gsCons_c, seqQ_t, seqQ_l, seqQ_r, hideS_fz, hideS_own, hideS_bor, hideS_no, mmQ_ii, atI_0, atI_1, atI_2, List.map_cons, List.map_nil, List.replicate, List.cons_append, List.nil_append, List.append_nil, List.set, List.length_cons, List.length_nil, decide_eq_true_eq, if_true, if_false, Bool.not_true, Bool.not_false, Bool.false_eq_true, and_true, true_and, List.nodup_cons, List.not_mem_nil, not_false_eq_true, List.nodup_nil, List.mem_cons, or_false, List.getD])
    exact ⟨(by rw [sizeLine_eq]; omega), (by rw [sizeLine_eq]; omega), h0⟩
def tP (s d : D) : D := match s with
  | .tup ss => if isN (wsD s) = true then (if isN (wwD ss d) = true then .tup [.str "told", d] else .tup [.str "BadPage", wwD ss d]) else .tup [.str "BadSizes", wsD s]
  | _ => .tup [.str "BadSizes", wsD s]
theorem w_page_told {s d : D} {Q : Rv → List OC → Prop} {ED : Nat → D → Prop} (h0 : Q (.own (.lst [tP s d, tP s d, .tup [.str "told", .bl (isPg s d)]])) []) : sp_page_told [.fz s, .fz d] Q ED := by
  refine ⟨rfl, ?_⟩
  (try simp only [dSeq, dIfS, dRet, dRetN, dNext, dSet, dSetO, dDrop, dCall, callQ, dCallKw, dCons, dNil, dBor, dsQ, dTup, dLst, dV, dC, slot, dOp, dUn, dCmp, dCmpT, dChain, dChainT, dTru, dAnd, dOr, dNot, dAndV, dOrV, dNotV, dIf, dIsi, dNoO, dSoO, dSl, bodyQ, endsOf, outsOf, lents, putB, lentQ, dAsg, gNm, gsNil, iSeq, iRng, DL.iRng2, iEnm, dLm, dLm0, dPut, dMm, dYes, hQ, isSub, hideE, pick_0, pick_10, pick_210, rep2, kg, dFor, dLc, wipeD, restD, dPar, ixN3_0, ixN3_1, ixN3_2, ex_some, dRaise_1, dHeard_e, List.set_cons_zero, List.set_cons_succ, rdQ_fz, rdQ_own, rdQ_at, rdS_fz, rdS_own, rdS_bor, frzQ_fz, frzQ_own, frzQ_at, frS_fz, frS_own, nmQ_s, nmS_fz, nmS_own, nmS_bor, retQ_fz, retQ_own, retQ_at, rtS_fz, rtS_own, argsOf_at, argsOf_d, argsOf_n, lnS_own, lnS_bor, lnS_fz, reS_o, reS_b, setF_d, setO_own, setO_fz, setO_at, notBor_fz, notBor_own, notBor_no, isOwn_own, isOwn_bor, addD_ii, addD_ss, addD_ll, addD_tt, subD_ii, mulD_ii, mulD_li, mulD_ti, fdivD_ii, modD_ii, powD_ii, negD_i, ltD_ii, leD_ii, gtD_ii, geD_ii, isQ_n, isQ_b, nisQ_n, isN_non, isN_bl, isN_int, isN_str, isN_tup, isN_lst, isN_rol, isN_dct, isT_int_non, isT_int_bl, isT_int_int, isT_int_str, isT_int_tup, isT_int_lst, isT_int_rol, isT_int_dct, isT_bool_non, isT_bool_bl, isT_bool_int, isT_bool_str, isT_bool_tup, isT_bool_lst, isT_bool_rol, isT_bool_dct, isT_str_non, isT_str_bl, isT_str_int, isT_str_str, isT_str_tup, isT_str_lst, isT_str_rol, isT_str_dct, isT_tuple_non, isT_tuple_bl, isT_tuple_int, isT_tuple_str, isT_tuple_tup, isT_tuple_lst, isT_tuple_rol, isT_tuple_dct, isT_list_non, isT_list_bl, isT_list_int, isT_list_str, isT_list_tup, isT_list_lst, isT_list_rol, isT_list_dct, isT_dict_non, isT_dict_bl, isT_dict_int, isT_dict_str, isT_dict_tup, isT_dict_lst, isT_dict_rol, isT_dict_dct, truQ_non, truQ_bl, truQ_int, truQ_tup, truQ_lst, blQ_bl, lenD_tup, lenD_lst, lenD_rol, lenD_str, tupD_tup, tupD_lst, lstD_tup, lstD_lst, lstD_rol, intD_i, intD_b, boolD_i, boolD_b, ixD_tup, ixD_lst, ixD_rol, slD_lst, slD_tup, intQ_i, appD_1, extD_1, lsQ_own, lsQ_bor, gTp_t, gsCons_c, seqQ_t, seqQ_l, seqQ_r, hideS_fz, hideS_own, hideS_bor, hideS_no, mmQ_ii, atI_0, atI_1, atI_2, List.map_cons, List.map_nil, List.replicate, List.cons_append, List.nil_append, List.append_nil, List.set, List.length_cons, List.length_nil, decide_eq_true_eq, if_true, if_false, Bool.not_true, Bool.not_false, Bool.false_eq_true, and_true, true_and, List.nodup_cons, List.not_mem_nil, not_false_eq_true, List.nodup_nil, List.mem_cons, or_false, List.getD, td_page_told])
  by_cases c : isN (wsD s) = true
  · have hs : ∃ ss, s = .tup ss := by
      cases s <;> first | exact ⟨_, rfl⟩ | cases c
    obtain ⟨ss, rfl⟩ := hs
    by_cases c2 : isN (wwD ss d) = true
    · have e : tP (.tup ss) d = .tup [.str "told", d] := by dsimp only [tP]; rw [if_pos c, if_pos c2]
      rw [e] at h0
      refine ⟨(by simp [lents, slot, Sl.isOwn]), w_made_page (fun z => absurd c (by rw [z]; decide)) fun ss' es _ => ?_⟩
      cases es
      rw [if_pos c2]
      (try simp only [dSeq, dIfS, dRet, dRetN, dNext, dSet, dSetO, dDrop, dCall, callQ, dCallKw, dCons, dNil, dBor, dsQ, dTup, dLst, dV, dC, slot, dOp, dUn, dCmp, dCmpT, dChain, dChainT, dTru, dAnd, dOr, dNot, dAndV, dOrV, dNotV, dIf, dIsi, dNoO, dSoO, dSl, bodyQ, endsOf, outsOf, lents, putB, lentQ, dAsg, gNm, gsNil, iSeq, iRng, DL.iRng2, iEnm, dLm, dLm0, dPut, dMm, dYes, hQ, isSub, hideE, pick_0, pick_10, pick_210, rep2, kg, dFor, dLc, wipeD, restD, dPar, ixN3_0, ixN3_1, ixN3_2, ex_some, dRaise_1, dHeard_e, List.set_cons_zero, List.set_cons_succ, rdQ_fz, rdQ_own, rdQ_at, rdS_fz, rdS_own, rdS_bor, frzQ_fz, frzQ_own, frzQ_at, frS_fz, frS_own, nmQ_s, nmS_fz, nmS_own, nmS_bor, retQ_fz, retQ_own, retQ_at, rtS_fz, rtS_own, argsOf_at, argsOf_d, argsOf_n, lnS_own, lnS_bor, lnS_fz, reS_o, reS_b, setF_d, setO_own, setO_fz, setO_at, notBor_fz, notBor_own, notBor_no, isOwn_own, isOwn_bor, addD_ii, addD_ss, addD_ll, addD_tt, subD_ii, mulD_ii, mulD_li, mulD_ti, fdivD_ii, modD_ii, powD_ii, negD_i, ltD_ii, leD_ii, gtD_ii, geD_ii, isQ_n, isQ_b, nisQ_n, isN_non, isN_bl, isN_int, isN_str, isN_tup, isN_lst, isN_rol, isN_dct, isT_int_non, isT_int_bl, isT_int_int, isT_int_str, isT_int_tup, isT_int_lst, isT_int_rol, isT_int_dct, isT_bool_non, isT_bool_bl, isT_bool_int, isT_bool_str, isT_bool_tup, isT_bool_lst, isT_bool_rol, isT_bool_dct, isT_str_non, isT_str_bl, isT_str_int, isT_str_str, isT_str_tup, isT_str_lst, isT_str_rol, isT_str_dct, isT_tuple_non, isT_tuple_bl, isT_tuple_int, isT_tuple_str, isT_tuple_tup, isT_tuple_lst, isT_tuple_rol, isT_tuple_dct, isT_list_non, isT_list_bl, isT_list_int, isT_list_str, isT_list_tup, isT_list_lst, isT_list_rol, isT_list_dct, isT_dict_non, isT_dict_bl, isT_dict_int, isT_dict_str, isT_dict_tup, isT_dict_lst, isT_dict_rol, isT_dict_dct, truQ_non, truQ_bl, truQ_int, truQ_tup, truQ_lst, blQ_bl, lenD_tup, lenD_lst, lenD_rol, lenD_str, tupD_tup, tupD_lst, lstD_tup, lstD_lst, lstD_rol, intD_i, intD_b, boolD_i, boolD_b, ixD_tup, ixD_lst, ixD_rol, slD_lst, slD_tup, intQ_i, appD_1, extD_1, lsQ_own, lsQ_bor, gTp_t, gsCons_c, seqQ_t, seqQ_l, seqQ_r, hideS_fz, hideS_own, hideS_bor, hideS_no, mmQ_ii, atI_0, atI_1, atI_2, List.map_cons, List.map_nil, List.replicate, List.cons_append, List.nil_append, List.append_nil, List.set, List.length_cons, List.length_nil, decide_eq_true_eq, if_true, if_false, Bool.not_true, Bool.not_false, Bool.false_eq_true, and_true, true_and, List.nodup_cons, List.not_mem_nil, not_false_eq_true, List.nodup_nil, List.mem_cons, or_false, List.getD])
      refine ⟨(by rw [sizeLine_eq]; omega), (by simp [lents, slot, Sl.isOwn]), w_made_page (fun z => absurd c (by rw [z]; decide)) fun ss' es _ => ?_⟩
      cases es
      rw [if_pos c2]
      (try simp only [dSeq, dIfS, dRet, dRetN, dNext, dSet, dSetO, dDrop, dCall, callQ, dCallKw, dCons, dNil, dBor, dsQ, dTup, dLst, dV, dC, slot, dOp, dUn, dCmp, dCmpT, dChain, dChainT, dTru, dAnd, dOr, dNot, dAndV, dOrV, dNotV, dIf, dIsi, dNoO, dSoO, dSl, bodyQ, endsOf, outsOf, lents, putB, lentQ, dAsg, gNm, gsNil, iSeq, iRng, DL.iRng2, iEnm, dLm, dLm0, dPut, dMm, dYes, hQ, isSub, hideE, pick_0, pick_10, pick_210, rep2, kg, dFor, dLc, wipeD, restD, dPar, ixN3_0, ixN3_1, ixN3_2, ex_some, dRaise_1, dHeard_e, List.set_cons_zero, List.set_cons_succ, rdQ_fz, rdQ_own, rdQ_at, rdS_fz, rdS_own, rdS_bor, frzQ_fz, frzQ_own, frzQ_at, frS_fz, frS_own, nmQ_s, nmS_fz, nmS_own, nmS_bor, retQ_fz, retQ_own, retQ_at, rtS_fz, rtS_own, argsOf_at, argsOf_d, argsOf_n, lnS_own, lnS_bor, lnS_fz, reS_o, reS_b, setF_d, setO_own, setO_fz, setO_at, notBor_fz, notBor_own, notBor_no, isOwn_own, isOwn_bor, addD_ii, addD_ss, addD_ll, addD_tt, subD_ii, mulD_ii, mulD_li, mulD_ti, fdivD_ii, modD_ii, powD_ii, negD_i, ltD_ii, leD_ii, gtD_ii, geD_ii, isQ_n, isQ_b, nisQ_n, isN_non, isN_bl, isN_int, isN_str, isN_tup, isN_lst, isN_rol, isN_dct, isT_int_non, isT_int_bl, isT_int_int, isT_int_str, isT_int_tup, isT_int_lst, isT_int_rol, isT_int_dct, isT_bool_non, isT_bool_bl, isT_bool_int, isT_bool_str, isT_bool_tup, isT_bool_lst, isT_bool_rol, isT_bool_dct, isT_str_non, isT_str_bl, isT_str_int, isT_str_str, isT_str_tup, isT_str_lst, isT_str_rol, isT_str_dct, isT_tuple_non, isT_tuple_bl, isT_tuple_int, isT_tuple_str, isT_tuple_tup, isT_tuple_lst, isT_tuple_rol, isT_tuple_dct, isT_list_non, isT_list_bl, isT_list_int, isT_list_str, isT_list_tup, isT_list_lst, isT_list_rol, isT_list_dct, isT_dict_non, isT_dict_bl, isT_dict_int, isT_dict_str, isT_dict_tup, isT_dict_lst, isT_dict_rol, isT_dict_dct, truQ_non, truQ_bl, truQ_int, truQ_tup, truQ_lst, blQ_bl, lenD_tup, lenD_lst, lenD_rol, lenD_str, tupD_tup, tupD_lst, lstD_tup, lstD_lst, lstD_rol, intD_i, intD_b, boolD_i, boolD_b, ixD_tup, ixD_lst, ixD_rol, slD_lst, slD_tup, intQ_i, appD_1, extD_1, lsQ_own, lsQ_bor, gTp_t, gsCons_c, seqQ_t, seqQ_l, seqQ_r, hideS_fz, hideS_own, hideS_bor, hideS_no, mmQ_ii, atI_0, atI_1, atI_2, List.map_cons, List.map_nil, List.replicate, List.cons_append, List.nil_append, List.append_nil, List.set, List.length_cons, List.length_nil, decide_eq_true_eq, if_true, if_false, Bool.not_true, Bool.not_false, Bool.false_eq_true, and_true, true_and, List.nodup_cons, List.not_mem_nil, not_false_eq_true, List.nodup_nil, List.mem_cons, or_false, List.getD])
      refine ⟨(by rw [sizeLine_eq]; omega), (by simp [lents, slot, Sl.isOwn]), w_is_page ?_⟩
      (try simp only [dSeq, dIfS, dRet, dRetN, dNext, dSet, dSetO, dDrop, dCall, callQ, dCallKw, dCons, dNil, dBor, dsQ, dTup, dLst, dV, dC, slot, dOp, dUn, dCmp, dCmpT, dChain, dChainT, dTru, dAnd, dOr, dNot, dAndV, dOrV, dNotV, dIf, dIsi, dNoO, dSoO, dSl, bodyQ, endsOf, outsOf, lents, putB, lentQ, dAsg, gNm, gsNil, iSeq, iRng, DL.iRng2, iEnm, dLm, dLm0, dPut, dMm, dYes, hQ, isSub, hideE, pick_0, pick_10, pick_210, rep2, kg, dFor, dLc, wipeD, restD, dPar, ixN3_0, ixN3_1, ixN3_2, ex_some, dRaise_1, dHeard_e, List.set_cons_zero, List.set_cons_succ, rdQ_fz, rdQ_own, rdQ_at, rdS_fz, rdS_own, rdS_bor, frzQ_fz, frzQ_own, frzQ_at, frS_fz, frS_own, nmQ_s, nmS_fz, nmS_own, nmS_bor, retQ_fz, retQ_own, retQ_at, rtS_fz, rtS_own, argsOf_at, argsOf_d, argsOf_n, lnS_own, lnS_bor, lnS_fz, reS_o, reS_b, setF_d, setO_own, setO_fz, setO_at, notBor_fz, notBor_own, notBor_no, isOwn_own, isOwn_bor, addD_ii, addD_ss, addD_ll, addD_tt, subD_ii, mulD_ii, mulD_li, mulD_ti, fdivD_ii, modD_ii, powD_ii, negD_i, ltD_ii, leD_ii, gtD_ii, geD_ii, isQ_n, isQ_b, nisQ_n, isN_non, isN_bl, isN_int, isN_str, isN_tup, isN_lst, isN_rol, isN_dct, isT_int_non, isT_int_bl, isT_int_int, isT_int_str, isT_int_tup, isT_int_lst, isT_int_rol, isT_int_dct, isT_bool_non, isT_bool_bl, isT_bool_int, isT_bool_str, isT_bool_tup, isT_bool_lst, isT_bool_rol, isT_bool_dct, isT_str_non, isT_str_bl, isT_str_int, isT_str_str, isT_str_tup, isT_str_lst, isT_str_rol, isT_str_dct, isT_tuple_non, isT_tuple_bl, isT_tuple_int, isT_tuple_str, isT_tuple_tup, isT_tuple_lst, isT_tuple_rol, isT_tuple_dct, isT_list_non, isT_list_bl, isT_list_int, isT_list_str, isT_list_tup, isT_list_lst, isT_list_rol, isT_list_dct, isT_dict_non, isT_dict_bl, isT_dict_int, isT_dict_str, isT_dict_tup, isT_dict_lst, isT_dict_rol, isT_dict_dct, truQ_non, truQ_bl, truQ_int, truQ_tup, truQ_lst, blQ_bl, lenD_tup, lenD_lst, lenD_rol, lenD_str, tupD_tup, tupD_lst, lstD_tup, lstD_lst, lstD_rol, intD_i, intD_b, boolD_i, boolD_b, ixD_tup, ixD_lst, ixD_rol, slD_lst, slD_tup, intQ_i, appD_1, extD_1, lsQ_own, lsQ_bor, gTp_t, gsCons_c, seqQ_t, seqQ_l, seqQ_r, hideS_fz, hideS_own, hideS_bor, hideS_no, mmQ_ii, atI_0, atI_1, atI_2, List.map_cons, List.map_nil, List.replicate, List.cons_append, List.nil_append, List.append_nil, List.set, List.length_cons, List.length_nil, decide_eq_true_eq, if_true, if_false, Bool.not_true, Bool.not_false, Bool.false_eq_true, and_true, true_and, List.nodup_cons, List.not_mem_nil, not_false_eq_true, List.nodup_nil, List.mem_cons, or_false, List.getD])
      exact ⟨(by rw [sizeLine_eq]; omega), (by rw [sizeLine_eq]; omega), h0⟩
    · have e : tP (.tup ss) d = .tup [.str "BadPage", wwD ss d] := by dsimp only [tP]; rw [if_pos c, if_neg c2]
      rw [e] at h0
      refine ⟨(by simp [lents, slot, Sl.isOwn]), w_made_page (fun z => absurd c (by rw [z]; decide)) fun ss' es _ => ?_⟩
      cases es
      rw [if_neg c2]
      (try simp only [dSeq, dIfS, dRet, dRetN, dNext, dSet, dSetO, dDrop, dCall, callQ, dCallKw, dCons, dNil, dBor, dsQ, dTup, dLst, dV, dC, slot, dOp, dUn, dCmp, dCmpT, dChain, dChainT, dTru, dAnd, dOr, dNot, dAndV, dOrV, dNotV, dIf, dIsi, dNoO, dSoO, dSl, bodyQ, endsOf, outsOf, lents, putB, lentQ, dAsg, gNm, gsNil, iSeq, iRng, DL.iRng2, iEnm, dLm, dLm0, dPut, dMm, dYes, hQ, isSub, hideE, pick_0, pick_10, pick_210, rep2, kg, dFor, dLc, wipeD, restD, dPar, ixN3_0, ixN3_1, ixN3_2, ex_some, dRaise_1, dHeard_e, List.set_cons_zero, List.set_cons_succ, rdQ_fz, rdQ_own, rdQ_at, rdS_fz, rdS_own, rdS_bor, frzQ_fz, frzQ_own, frzQ_at, frS_fz, frS_own, nmQ_s, nmS_fz, nmS_own, nmS_bor, retQ_fz, retQ_own, retQ_at, rtS_fz, rtS_own, argsOf_at, argsOf_d, argsOf_n, lnS_own, lnS_bor, lnS_fz, reS_o, reS_b, setF_d, setO_own, setO_fz, setO_at, notBor_fz, notBor_own, notBor_no, isOwn_own, isOwn_bor, addD_ii, addD_ss, addD_ll, addD_tt, subD_ii, mulD_ii, mulD_li, mulD_ti, fdivD_ii, modD_ii, powD_ii, negD_i, ltD_ii, leD_ii, gtD_ii, geD_ii, isQ_n, isQ_b, nisQ_n, isN_non, isN_bl, isN_int, isN_str, isN_tup, isN_lst, isN_rol, isN_dct, isT_int_non, isT_int_bl, isT_int_int, isT_int_str, isT_int_tup, isT_int_lst, isT_int_rol, isT_int_dct, isT_bool_non, isT_bool_bl, isT_bool_int, isT_bool_str, isT_bool_tup, isT_bool_lst, isT_bool_rol, isT_bool_dct, isT_str_non, isT_str_bl, isT_str_int, isT_str_str, isT_str_tup, isT_str_lst, isT_str_rol, isT_str_dct, isT_tuple_non, isT_tuple_bl, isT_tuple_int, isT_tuple_str, isT_tuple_tup, isT_tuple_lst, isT_tuple_rol, isT_tuple_dct, isT_list_non, isT_list_bl, isT_list_int, isT_list_str, isT_list_tup, isT_list_lst, isT_list_rol, isT_list_dct, isT_dict_non, isT_dict_bl, isT_dict_int, isT_dict_str, isT_dict_tup, isT_dict_lst, isT_dict_rol, isT_dict_dct, truQ_non, truQ_bl, truQ_int, truQ_tup, truQ_lst, blQ_bl, lenD_tup, lenD_lst, lenD_rol, lenD_str, tupD_tup, tupD_lst, lstD_tup, lstD_lst, lstD_rol, intD_i, intD_b, boolD_i, boolD_b, ixD_tup, ixD_lst, ixD_rol, slD_lst, slD_tup, intQ_i, appD_1, extD_1, lsQ_own, lsQ_bor, gTp_t, gsCons_c, seqQ_t, seqQ_l, seqQ_r, hideS_fz, hideS_own, hideS_bor, hideS_no, mmQ_ii, atI_0, atI_1, atI_2, List.map_cons, List.map_nil, List.replicate, List.cons_append, List.nil_append, List.append_nil, List.set, List.length_cons, List.length_nil, decide_eq_true_eq, if_true, if_false, Bool.not_true, Bool.not_false, Bool.false_eq_true, and_true, true_and, List.nodup_cons, List.not_mem_nil, not_false_eq_true, List.nodup_nil, List.mem_cons, or_false, List.getD, hh2])
      refine ⟨(by rw [sizeLine_eq]; omega), (by simp [lents, slot, Sl.isOwn]), w_made_page (fun z => absurd c (by rw [z]; decide)) fun ss' es _ => ?_⟩
      cases es
      rw [if_neg c2]
      (try simp only [dSeq, dIfS, dRet, dRetN, dNext, dSet, dSetO, dDrop, dCall, callQ, dCallKw, dCons, dNil, dBor, dsQ, dTup, dLst, dV, dC, slot, dOp, dUn, dCmp, dCmpT, dChain, dChainT, dTru, dAnd, dOr, dNot, dAndV, dOrV, dNotV, dIf, dIsi, dNoO, dSoO, dSl, bodyQ, endsOf, outsOf, lents, putB, lentQ, dAsg, gNm, gsNil, iSeq, iRng, DL.iRng2, iEnm, dLm, dLm0, dPut, dMm, dYes, hQ, isSub, hideE, pick_0, pick_10, pick_210, rep2, kg, dFor, dLc, wipeD, restD, dPar, ixN3_0, ixN3_1, ixN3_2, ex_some, dRaise_1, dHeard_e, List.set_cons_zero, List.set_cons_succ, rdQ_fz, rdQ_own, rdQ_at, rdS_fz, rdS_own, rdS_bor, frzQ_fz, frzQ_own, frzQ_at, frS_fz, frS_own, nmQ_s, nmS_fz, nmS_own, nmS_bor, retQ_fz, retQ_own, retQ_at, rtS_fz, rtS_own, argsOf_at, argsOf_d, argsOf_n, lnS_own, lnS_bor, lnS_fz, reS_o, reS_b, setF_d, setO_own, setO_fz, setO_at, notBor_fz, notBor_own, notBor_no, isOwn_own, isOwn_bor, addD_ii, addD_ss, addD_ll, addD_tt, subD_ii, mulD_ii, mulD_li, mulD_ti, fdivD_ii, modD_ii, powD_ii, negD_i, ltD_ii, leD_ii, gtD_ii, geD_ii, isQ_n, isQ_b, nisQ_n, isN_non, isN_bl, isN_int, isN_str, isN_tup, isN_lst, isN_rol, isN_dct, isT_int_non, isT_int_bl, isT_int_int, isT_int_str, isT_int_tup, isT_int_lst, isT_int_rol, isT_int_dct, isT_bool_non, isT_bool_bl, isT_bool_int, isT_bool_str, isT_bool_tup, isT_bool_lst, isT_bool_rol, isT_bool_dct, isT_str_non, isT_str_bl, isT_str_int, isT_str_str, isT_str_tup, isT_str_lst, isT_str_rol, isT_str_dct, isT_tuple_non, isT_tuple_bl, isT_tuple_int, isT_tuple_str, isT_tuple_tup, isT_tuple_lst, isT_tuple_rol, isT_tuple_dct, isT_list_non, isT_list_bl, isT_list_int, isT_list_str, isT_list_tup, isT_list_lst, isT_list_rol, isT_list_dct, isT_dict_non, isT_dict_bl, isT_dict_int, isT_dict_str, isT_dict_tup, isT_dict_lst, isT_dict_rol, isT_dict_dct, truQ_non, truQ_bl, truQ_int, truQ_tup, truQ_lst, blQ_bl, lenD_tup, lenD_lst, lenD_rol, lenD_str, tupD_tup, tupD_lst, lstD_tup, lstD_lst, lstD_rol, intD_i, intD_b, boolD_i, boolD_b, ixD_tup, ixD_lst, ixD_rol, slD_lst, slD_tup, intQ_i, appD_1, extD_1, lsQ_own, lsQ_bor, gTp_t, gsCons_c, seqQ_t, seqQ_l, seqQ_r, hideS_fz, hideS_own, hideS_bor, hideS_no, mmQ_ii, atI_0, atI_1, atI_2, List.map_cons, List.map_nil, List.replicate, List.cons_append, List.nil_append, List.append_nil, List.set, List.length_cons, List.length_nil, decide_eq_true_eq, if_true, if_false, Bool.not_true, Bool.not_false, Bool.false_eq_true, and_true, true_and, List.nodup_cons, List.not_mem_nil, not_false_eq_true, List.nodup_nil, List.mem_cons, or_false, List.getD, hh2])
      refine ⟨(by rw [sizeLine_eq]; omega), (by simp [lents, slot, Sl.isOwn]), w_is_page ?_⟩
      (try simp only [dSeq, dIfS, dRet, dRetN, dNext, dSet, dSetO, dDrop, dCall, callQ, dCallKw, dCons, dNil, dBor, dsQ, dTup, dLst, dV, dC, slot, dOp, dUn, dCmp, dCmpT, dChain, dChainT, dTru, dAnd, dOr, dNot, dAndV, dOrV, dNotV, dIf, dIsi, dNoO, dSoO, dSl, bodyQ, endsOf, outsOf, lents, putB, lentQ, dAsg, gNm, gsNil, iSeq, iRng, DL.iRng2, iEnm, dLm, dLm0, dPut, dMm, dYes, hQ, isSub, hideE, pick_0, pick_10, pick_210, rep2, kg, dFor, dLc, wipeD, restD, dPar, ixN3_0, ixN3_1, ixN3_2, ex_some, dRaise_1, dHeard_e, List.set_cons_zero, List.set_cons_succ, rdQ_fz, rdQ_own, rdQ_at, rdS_fz, rdS_own, rdS_bor, frzQ_fz, frzQ_own, frzQ_at, frS_fz, frS_own, nmQ_s, nmS_fz, nmS_own, nmS_bor, retQ_fz, retQ_own, retQ_at, rtS_fz, rtS_own, argsOf_at, argsOf_d, argsOf_n, lnS_own, lnS_bor, lnS_fz, reS_o, reS_b, setF_d, setO_own, setO_fz, setO_at, notBor_fz, notBor_own, notBor_no, isOwn_own, isOwn_bor, addD_ii, addD_ss, addD_ll, addD_tt, subD_ii, mulD_ii, mulD_li, mulD_ti, fdivD_ii, modD_ii, powD_ii, negD_i, ltD_ii, leD_ii, gtD_ii, geD_ii, isQ_n, isQ_b, nisQ_n, isN_non, isN_bl, isN_int, isN_str, isN_tup, isN_lst, isN_rol, isN_dct, isT_int_non, isT_int_bl, isT_int_int, isT_int_str, isT_int_tup, isT_int_lst, isT_int_rol, isT_int_dct, isT_bool_non, isT_bool_bl, isT_bool_int, isT_bool_str, isT_bool_tup, isT_bool_lst, isT_bool_rol, isT_bool_dct, isT_str_non, isT_str_bl, isT_str_int, isT_str_str, isT_str_tup, isT_str_lst, isT_str_rol, isT_str_dct, isT_tuple_non, isT_tuple_bl, isT_tuple_int, isT_tuple_str, isT_tuple_tup, isT_tuple_lst, isT_tuple_rol, isT_tuple_dct, isT_list_non, isT_list_bl, isT_list_int, isT_list_str, isT_list_tup, isT_list_lst, isT_list_rol, isT_list_dct, isT_dict_non, isT_dict_bl, isT_dict_int, isT_dict_str, isT_dict_tup, isT_dict_lst, isT_dict_rol, isT_dict_dct, truQ_non, truQ_bl, truQ_int, truQ_tup, truQ_lst, blQ_bl, lenD_tup, lenD_lst, lenD_rol, lenD_str, tupD_tup, tupD_lst, lstD_tup, lstD_lst, lstD_rol, intD_i, intD_b, boolD_i, boolD_b, ixD_tup, ixD_lst, ixD_rol, slD_lst, slD_tup, intQ_i, appD_1, extD_1, lsQ_own, lsQ_bor, gTp_t, gsCons_c, seqQ_t, seqQ_l, seqQ_r, hideS_fz, hideS_own, hideS_bor, hideS_no, mmQ_ii, atI_0, atI_1, atI_2, List.map_cons, List.map_nil, List.replicate, List.cons_append, List.nil_append, List.append_nil, List.set, List.length_cons, List.length_nil, decide_eq_true_eq, if_true, if_false, Bool.not_true, Bool.not_false, Bool.false_eq_true, and_true, true_and, List.nodup_cons, List.not_mem_nil, not_false_eq_true, List.nodup_nil, List.mem_cons, or_false, List.getD])
      exact ⟨(by rw [sizeLine_eq]; omega), (by rw [sizeLine_eq]; omega), h0⟩
  · have e : tP s d = .tup [.str "BadSizes", wsD s] := by
      cases s <;> first | rfl | (dsimp only [tP]; rw [if_neg c])
    rw [e] at h0
    refine ⟨(by simp [lents, slot, Sl.isOwn]), w_made_page (fun z => ?_) fun ss' es z => absurd z c⟩
    (try simp only [dSeq, dIfS, dRet, dRetN, dNext, dSet, dSetO, dDrop, dCall, callQ, dCallKw, dCons, dNil, dBor, dsQ, dTup, dLst, dV, dC, slot, dOp, dUn, dCmp, dCmpT, dChain, dChainT, dTru, dAnd, dOr, dNot, dAndV, dOrV, dNotV, dIf, dIsi, dNoO, dSoO, dSl, bodyQ, endsOf, outsOf, lents, putB, lentQ, dAsg, gNm, gsNil, iSeq, iRng, DL.iRng2, iEnm, dLm, dLm0, dPut, dMm, dYes, hQ, isSub, hideE, pick_0, pick_10, pick_210, rep2, kg, dFor, dLc, wipeD, restD, dPar, ixN3_0, ixN3_1, ixN3_2, ex_some, dRaise_1, dHeard_e, List.set_cons_zero, List.set_cons_succ, rdQ_fz, rdQ_own, rdQ_at, rdS_fz, rdS_own, rdS_bor, frzQ_fz, frzQ_own, frzQ_at, frS_fz, frS_own, nmQ_s, nmS_fz, nmS_own, nmS_bor, retQ_fz, retQ_own, retQ_at, rtS_fz, rtS_own, argsOf_at, argsOf_d, argsOf_n, lnS_own, lnS_bor, lnS_fz, reS_o, reS_b, setF_d, setO_own, setO_fz, setO_at, notBor_fz, notBor_own, notBor_no, isOwn_own, isOwn_bor, addD_ii, addD_ss, addD_ll, addD_tt, subD_ii, mulD_ii, mulD_li, mulD_ti, fdivD_ii, modD_ii, powD_ii, negD_i, ltD_ii, leD_ii, gtD_ii, geD_ii, isQ_n, isQ_b, nisQ_n, isN_non, isN_bl, isN_int, isN_str, isN_tup, isN_lst, isN_rol, isN_dct, isT_int_non, isT_int_bl, isT_int_int, isT_int_str, isT_int_tup, isT_int_lst, isT_int_rol, isT_int_dct, isT_bool_non, isT_bool_bl, isT_bool_int, isT_bool_str, isT_bool_tup, isT_bool_lst, isT_bool_rol, isT_bool_dct, isT_str_non, isT_str_bl, isT_str_int, isT_str_str, isT_str_tup, isT_str_lst, isT_str_rol, isT_str_dct, isT_tuple_non, isT_tuple_bl, isT_tuple_int, isT_tuple_str, isT_tuple_tup, isT_tuple_lst, isT_tuple_rol, isT_tuple_dct, isT_list_non, isT_list_bl, isT_list_int, isT_list_str, isT_list_tup, isT_list_lst, isT_list_rol, isT_list_dct, isT_dict_non, isT_dict_bl, isT_dict_int, isT_dict_str, isT_dict_tup, isT_dict_lst, isT_dict_rol, isT_dict_dct, truQ_non, truQ_bl, truQ_int, truQ_tup, truQ_lst, blQ_bl, lenD_tup, lenD_lst, lenD_rol, lenD_str, tupD_tup, tupD_lst, lstD_tup, lstD_lst, lstD_rol, intD_i, intD_b, boolD_i, boolD_b, ixD_tup, ixD_lst, ixD_rol, slD_lst, slD_tup, intQ_i, appD_1, extD_1, lsQ_own, lsQ_bor, gTp_t, gsCons_c, seqQ_t, seqQ_l, seqQ_r, hideS_fz, hideS_own, hideS_bor, hideS_no, mmQ_ii, atI_0, atI_1, atI_2, List.map_cons, List.map_nil, List.replicate, List.cons_append, List.nil_append, List.append_nil, List.set, List.length_cons, List.length_nil, decide_eq_true_eq, if_true, if_false, Bool.not_true, Bool.not_false, Bool.false_eq_true, and_true, true_and, List.nodup_cons, List.not_mem_nil, not_false_eq_true, List.nodup_nil, List.mem_cons, or_false, List.getD, hh1])
    refine ⟨(by rw [sizeLine_eq]; omega), (by simp [lents, slot, Sl.isOwn]), w_made_page (fun z => ?_) fun ss' es z => absurd z c⟩
    (try simp only [dSeq, dIfS, dRet, dRetN, dNext, dSet, dSetO, dDrop, dCall, callQ, dCallKw, dCons, dNil, dBor, dsQ, dTup, dLst, dV, dC, slot, dOp, dUn, dCmp, dCmpT, dChain, dChainT, dTru, dAnd, dOr, dNot, dAndV, dOrV, dNotV, dIf, dIsi, dNoO, dSoO, dSl, bodyQ, endsOf, outsOf, lents, putB, lentQ, dAsg, gNm, gsNil, iSeq, iRng, DL.iRng2, iEnm, dLm, dLm0, dPut, dMm, dYes, hQ, isSub, hideE, pick_0, pick_10, pick_210, rep2, kg, dFor, dLc, wipeD, restD, dPar, ixN3_0, ixN3_1, ixN3_2, ex_some, dRaise_1, dHeard_e, List.set_cons_zero, List.set_cons_succ, rdQ_fz, rdQ_own, rdQ_at, rdS_fz, rdS_own, rdS_bor, frzQ_fz, frzQ_own, frzQ_at, frS_fz, frS_own, nmQ_s, nmS_fz, nmS_own, nmS_bor, retQ_fz, retQ_own, retQ_at, rtS_fz, rtS_own, argsOf_at, argsOf_d, argsOf_n, lnS_own, lnS_bor, lnS_fz, reS_o, reS_b, setF_d, setO_own, setO_fz, setO_at, notBor_fz, notBor_own, notBor_no, isOwn_own, isOwn_bor, addD_ii, addD_ss, addD_ll, addD_tt, subD_ii, mulD_ii, mulD_li, mulD_ti, fdivD_ii, modD_ii, powD_ii, negD_i, ltD_ii, leD_ii, gtD_ii, geD_ii, isQ_n, isQ_b, nisQ_n, isN_non, isN_bl, isN_int, isN_str, isN_tup, isN_lst, isN_rol, isN_dct, isT_int_non, isT_int_bl, isT_int_int, isT_int_str, isT_int_tup, isT_int_lst, isT_int_rol, isT_int_dct, isT_bool_non, isT_bool_bl, isT_bool_int, isT_bool_str, isT_bool_tup, isT_bool_lst, isT_bool_rol, isT_bool_dct, isT_str_non, isT_str_bl, isT_str_int, isT_str_str, isT_str_tup, isT_str_lst, isT_str_rol, isT_str_dct, isT_tuple_non, isT_tuple_bl, isT_tuple_int, isT_tuple_str, isT_tuple_tup, isT_tuple_lst, isT_tuple_rol, isT_tuple_dct, isT_list_non, isT_list_bl, isT_list_int, isT_list_str, isT_list_tup, isT_list_lst, isT_list_rol, isT_list_dct, isT_dict_non, isT_dict_bl, isT_dict_int, isT_dict_str, isT_dict_tup, isT_dict_lst, isT_dict_rol, isT_dict_dct, truQ_non, truQ_bl, truQ_int, truQ_tup, truQ_lst, blQ_bl, lenD_tup, lenD_lst, lenD_rol, lenD_str, tupD_tup, tupD_lst, lstD_tup, lstD_lst, lstD_rol, intD_i, intD_b, boolD_i, boolD_b, ixD_tup, ixD_lst, ixD_rol, slD_lst, slD_tup, intQ_i, appD_1, extD_1, lsQ_own, lsQ_bor, gTp_t, gsCons_c, seqQ_t, seqQ_l, seqQ_r, hideS_fz, hideS_own, hideS_bor, hideS_no, mmQ_ii, atI_0, atI_1, atI_2, List.map_cons, List.map_nil, List.replicate, List.cons_append, List.nil_append, List.append_nil, List.set, List.length_cons, List.length_nil, decide_eq_true_eq, if_true, if_false, Bool.not_true, Bool.not_false, Bool.false_eq_true, and_true, true_and, List.nodup_cons, List.not_mem_nil, not_false_eq_true, List.nodup_nil, List.mem_cons, or_false, List.getD, hh1])
    refine ⟨(by rw [sizeLine_eq]; omega), (by simp [lents, slot, Sl.isOwn]), w_is_page ?_⟩
    (try simp only [dSeq, dIfS, dRet, dRetN, dNext, dSet, dSetO, dDrop, dCall, callQ, dCallKw, dCons, dNil, dBor, dsQ, dTup, dLst, dV, dC, slot, dOp, dUn, dCmp, dCmpT, dChain, dChainT, dTru, dAnd, dOr, dNot, dAndV, dOrV, dNotV, dIf, dIsi, dNoO, dSoO, dSl, bodyQ, endsOf, outsOf, lents, putB, lentQ, dAsg, gNm, gsNil, iSeq, iRng, DL.iRng2, iEnm, dLm, dLm0, dPut, dMm, dYes, hQ, isSub, hideE, pick_0, pick_10, pick_210, rep2, kg, dFor, dLc, wipeD, restD, dPar, ixN3_0, ixN3_1, ixN3_2, ex_some, dRaise_1, dHeard_e, List.set_cons_zero, List.set_cons_succ, rdQ_fz, rdQ_own, rdQ_at, rdS_fz, rdS_own, rdS_bor, frzQ_fz, frzQ_own, frzQ_at, frS_fz, frS_own, nmQ_s, nmS_fz, nmS_own, nmS_bor, retQ_fz, retQ_own, retQ_at, rtS_fz, rtS_own, argsOf_at, argsOf_d, argsOf_n, lnS_own, lnS_bor, lnS_fz, reS_o, reS_b, setF_d, setO_own, setO_fz, setO_at, notBor_fz, notBor_own, notBor_no, isOwn_own, isOwn_bor, addD_ii, addD_ss, addD_ll, addD_tt, subD_ii, mulD_ii, mulD_li, mulD_ti, fdivD_ii, modD_ii, powD_ii, negD_i, ltD_ii, leD_ii, gtD_ii, geD_ii, isQ_n, isQ_b, nisQ_n, isN_non, isN_bl, isN_int, isN_str, isN_tup, isN_lst, isN_rol, isN_dct, isT_int_non, isT_int_bl, isT_int_int, isT_int_str, isT_int_tup, isT_int_lst, isT_int_rol, isT_int_dct, isT_bool_non, isT_bool_bl, isT_bool_int, isT_bool_str, isT_bool_tup, isT_bool_lst, isT_bool_rol, isT_bool_dct, isT_str_non, isT_str_bl, isT_str_int, isT_str_str, isT_str_tup, isT_str_lst, isT_str_rol, isT_str_dct, isT_tuple_non, isT_tuple_bl, isT_tuple_int, isT_tuple_str, isT_tuple_tup, isT_tuple_lst, isT_tuple_rol, isT_tuple_dct, isT_list_non, isT_list_bl, isT_list_int, isT_list_str, isT_list_tup, isT_list_lst, isT_list_rol, isT_list_dct, isT_dict_non, isT_dict_bl, isT_dict_int, isT_dict_str, isT_dict_tup, isT_dict_lst, isT_dict_rol, isT_dict_dct, truQ_non, truQ_bl, truQ_int, truQ_tup, truQ_lst, blQ_bl, lenD_tup, lenD_lst, lenD_rol, lenD_str, tupD_tup, tupD_lst, lstD_tup, lstD_lst, lstD_rol, intD_i, intD_b, boolD_i, boolD_b, ixD_tup, ixD_lst, ixD_rol, slD_lst, slD_tup, intQ_i, appD_1, extD_1, lsQ_own, lsQ_bor, gTp_t, gsCons_c, seqQ_t, seqQ_l, seqQ_r, hideS_fz, hideS_own, hideS_bor, hideS_no, mmQ_ii, atI_0, atI_1, atI_2, List.map_cons, List.map_nil, List.replicate, List.cons_append, List.nil_append, List.append_nil, List.set, List.length_cons, List.length_nil, decide_eq_true_eq, if_true, if_false, Bool.not_true, Bool.not_false, Bool.false_eq_true, and_true, true_and, List.nodup_cons, List.not_mem_nil, not_false_eq_true, List.nodup_nil, List.mem_cons, or_false, List.getD])
    exact ⟨(by rw [sizeLine_eq]; omega), (by rw [sizeLine_eq]; omega), h0⟩
def owedD (due d : D) : List D := if isN due = true then [.tup [.str "told", d], .tup [.str "told", d], .tup [.str "told", .bl true]] else [due, due, .tup [.str "told", .bl false]]
theorem w_owed {due d : D} {Q : Rv → List OC → Prop} {ED : Nat → D → Prop} (h0 : Q (.own (.lst (owedD due d))) []) : sp_owed [.fz due, .fz d] Q ED := by
  refine ⟨rfl, ?_⟩
  (try simp only [dSeq, dIfS, dRet, dRetN, dNext, dSet, dSetO, dDrop, dCall, callQ, dCallKw, dCons, dNil, dBor, dsQ, dTup, dLst, dV, dC, slot, dOp, dUn, dCmp, dCmpT, dChain, dChainT, dTru, dAnd, dOr, dNot, dAndV, dOrV, dNotV, dIf, dIsi, dNoO, dSoO, dSl, bodyQ, endsOf, outsOf, lents, putB, lentQ, dAsg, gNm, gsNil, iSeq, iRng, DL.iRng2, iEnm, dLm, dLm0, dPut, dMm, dYes, hQ, isSub, hideE, pick_0, pick_10, pick_210, rep2, kg, dFor, dLc, wipeD, restD, dPar, ixN3_0, ixN3_1, ixN3_2, ex_some, dRaise_1, dHeard_e, List.set_cons_zero, List.set_cons_succ, rdQ_fz, rdQ_own, rdQ_at, rdS_fz, rdS_own, rdS_bor, frzQ_fz, frzQ_own, frzQ_at, frS_fz, frS_own, nmQ_s, nmS_fz, nmS_own, nmS_bor, retQ_fz, retQ_own, retQ_at, rtS_fz, rtS_own, argsOf_at, argsOf_d, argsOf_n, lnS_own, lnS_bor, lnS_fz, reS_o, reS_b, setF_d, setO_own, setO_fz, setO_at, notBor_fz, notBor_own, notBor_no, isOwn_own, isOwn_bor, addD_ii, addD_ss, addD_ll, addD_tt, subD_ii, mulD_ii, mulD_li, mulD_ti, fdivD_ii, modD_ii, powD_ii, negD_i, ltD_ii, leD_ii, gtD_ii, geD_ii, isQ_n, isQ_b, nisQ_n, isN_non, isN_bl, isN_int, isN_str, isN_tup, isN_lst, isN_rol, isN_dct, isT_int_non, isT_int_bl, isT_int_int, isT_int_str, isT_int_tup, isT_int_lst, isT_int_rol, isT_int_dct, isT_bool_non, isT_bool_bl, isT_bool_int, isT_bool_str, isT_bool_tup, isT_bool_lst, isT_bool_rol, isT_bool_dct, isT_str_non, isT_str_bl, isT_str_int, isT_str_str, isT_str_tup, isT_str_lst, isT_str_rol, isT_str_dct, isT_tuple_non, isT_tuple_bl, isT_tuple_int, isT_tuple_str, isT_tuple_tup, isT_tuple_lst, isT_tuple_rol, isT_tuple_dct, isT_list_non, isT_list_bl, isT_list_int, isT_list_str, isT_list_tup, isT_list_lst, isT_list_rol, isT_list_dct, isT_dict_non, isT_dict_bl, isT_dict_int, isT_dict_str, isT_dict_tup, isT_dict_lst, isT_dict_rol, isT_dict_dct, truQ_non, truQ_bl, truQ_int, truQ_tup, truQ_lst, blQ_bl, lenD_tup, lenD_lst, lenD_rol, lenD_str, tupD_tup, tupD_lst, lstD_tup, lstD_lst, lstD_rol, intD_i, intD_b, boolD_i, boolD_b, ixD_tup, ixD_lst, ixD_rol, slD_lst, slD_tup, intQ_i, appD_1, extD_1, lsQ_own, lsQ_bor, gTp_t, gsCons_c, seqQ_t, seqQ_l, seqQ_r, hideS_fz, hideS_own, hideS_bor, hideS_no, mmQ_ii, atI_0, atI_1, atI_2, List.map_cons, List.map_nil, List.replicate, List.cons_append, List.nil_append, List.append_nil, List.set, List.length_cons, List.length_nil, decide_eq_true_eq, if_true, if_false, Bool.not_true, Bool.not_false, Bool.false_eq_true, and_true, true_and, List.nodup_cons, List.not_mem_nil, not_false_eq_true, List.nodup_nil, List.mem_cons, or_false, List.getD, td_owed])
  unfold owedD at h0
  by_cases c : isN due = true
  · rw [if_pos c] at h0
    (try simp only [dSeq, dIfS, dRet, dRetN, dNext, dSet, dSetO, dDrop, dCall, callQ, dCallKw, dCons, dNil, dBor, dsQ, dTup, dLst, dV, dC, slot, dOp, dUn, dCmp, dCmpT, dChain, dChainT, dTru, dAnd, dOr, dNot, dAndV, dOrV, dNotV, dIf, dIsi, dNoO, dSoO, dSl, bodyQ, endsOf, outsOf, lents, putB, lentQ, dAsg, gNm, gsNil, iSeq, iRng, DL.iRng2, iEnm, dLm, dLm0, dPut, dMm, dYes, hQ, isSub, hideE, pick_0, pick_10, pick_210, rep2, kg, dFor, dLc, wipeD, restD, dPar, ixN3_0, ixN3_1, ixN3_2, ex_some, dRaise_1, dHeard_e, List.set_cons_zero, List.set_cons_succ, rdQ_fz, rdQ_own, rdQ_at, rdS_fz, rdS_own, rdS_bor, frzQ_fz, frzQ_own, frzQ_at, frS_fz, frS_own, nmQ_s, nmS_fz, nmS_own, nmS_bor, retQ_fz, retQ_own, retQ_at, rtS_fz, rtS_own, argsOf_at, argsOf_d, argsOf_n, lnS_own, lnS_bor, lnS_fz, reS_o, reS_b, setF_d, setO_own, setO_fz, setO_at, notBor_fz, notBor_own, notBor_no, isOwn_own, isOwn_bor, addD_ii, addD_ss, addD_ll, addD_tt, subD_ii, mulD_ii, mulD_li, mulD_ti, fdivD_ii, modD_ii, powD_ii, negD_i, ltD_ii, leD_ii, gtD_ii, geD_ii, isQ_n, isQ_b, nisQ_n, isN_non, isN_bl, isN_int, isN_str, isN_tup, isN_lst, isN_rol, isN_dct, isT_int_non, isT_int_bl, isT_int_int, isT_int_str, isT_int_tup, isT_int_lst, isT_int_rol, isT_int_dct, isT_bool_non, isT_bool_bl, isT_bool_int, isT_bool_str, isT_bool_tup, isT_bool_lst, isT_bool_rol, isT_bool_dct, isT_str_non, isT_str_bl, isT_str_int, isT_str_str, isT_str_tup, isT_str_lst, isT_str_rol, isT_str_dct, isT_tuple_non, isT_tuple_bl, isT_tuple_int, isT_tuple_str, isT_tuple_tup, isT_tuple_lst, isT_tuple_rol, isT_tuple_dct, isT_list_non, isT_list_bl, isT_list_int, isT_list_str, isT_list_tup, isT_list_lst, isT_list_rol, isT_list_dct, isT_dict_non, isT_dict_bl, isT_dict_int, isT_dict_str, isT_dict_tup, isT_dict_lst, isT_dict_rol, isT_dict_dct, truQ_non, truQ_bl, truQ_int, truQ_tup, truQ_lst, blQ_bl, lenD_tup, lenD_lst, lenD_rol, lenD_str, tupD_tup, tupD_lst, lstD_tup, lstD_lst, lstD_rol, intD_i, intD_b, boolD_i, boolD_b, ixD_tup, ixD_lst, ixD_rol, slD_lst, slD_tup, intQ_i, appD_1, extD_1, lsQ_own, lsQ_bor, gTp_t, gsCons_c, seqQ_t, seqQ_l, seqQ_r, hideS_fz, hideS_own, hideS_bor, hideS_no, mmQ_ii, atI_0, atI_1, atI_2, List.map_cons, List.map_nil, List.replicate, List.cons_append, List.nil_append, List.append_nil, List.set, List.length_cons, List.length_nil, decide_eq_true_eq, if_true, if_false, Bool.not_true, Bool.not_false, Bool.false_eq_true, and_true, true_and, List.nodup_cons, List.not_mem_nil, not_false_eq_true, List.nodup_nil, List.mem_cons, or_false, List.getD, c])
    exact ⟨(by rw [sizeLine_eq]; omega), (by rw [sizeLine_eq]; omega), by decide, (by rw [sizeLine_eq]; omega), (by rw [sizeLine_eq]; omega), (by rw [sizeLine_eq]; omega), (by rw [sizeLine_eq]; omega), h0⟩
  · rw [if_neg c] at h0
    have c' : isN due = false := by simpa using c
    (try simp only [dSeq, dIfS, dRet, dRetN, dNext, dSet, dSetO, dDrop, dCall, callQ, dCallKw, dCons, dNil, dBor, dsQ, dTup, dLst, dV, dC, slot, dOp, dUn, dCmp, dCmpT, dChain, dChainT, dTru, dAnd, dOr, dNot, dAndV, dOrV, dNotV, dIf, dIsi, dNoO, dSoO, dSl, bodyQ, endsOf, outsOf, lents, putB, lentQ, dAsg, gNm, gsNil, iSeq, iRng, DL.iRng2, iEnm, dLm, dLm0, dPut, dMm, dYes, hQ, isSub, hideE, pick_0, pick_10, pick_210, rep2, kg, dFor, dLc, wipeD, restD, dPar, ixN3_0, ixN3_1, ixN3_2, ex_some, dRaise_1, dHeard_e, List.set_cons_zero, List.set_cons_succ, rdQ_fz, rdQ_own, rdQ_at, rdS_fz, rdS_own, rdS_bor, frzQ_fz, frzQ_own, frzQ_at, frS_fz, frS_own, nmQ_s, nmS_fz, nmS_own, nmS_bor, retQ_fz, retQ_own, retQ_at, rtS_fz, rtS_own, argsOf_at, argsOf_d, argsOf_n, lnS_own, lnS_bor, lnS_fz, reS_o, reS_b, setF_d, setO_own, setO_fz, setO_at, notBor_fz, notBor_own, notBor_no, isOwn_own, isOwn_bor, addD_ii, addD_ss, addD_ll, addD_tt, subD_ii, mulD_ii, mulD_li, mulD_ti, fdivD_ii, modD_ii, powD_ii, negD_i, ltD_ii, leD_ii, gtD_ii, geD_ii, isQ_n, isQ_b, nisQ_n, isN_non, isN_bl, isN_int, isN_str, isN_tup, isN_lst, isN_rol, isN_dct, isT_int_non, isT_int_bl, isT_int_int, isT_int_str, isT_int_tup, isT_int_lst, isT_int_rol, isT_int_dct, isT_bool_non, isT_bool_bl, isT_bool_int, isT_bool_str, isT_bool_tup, isT_bool_lst, isT_bool_rol, isT_bool_dct, isT_str_non, isT_str_bl, isT_str_int, isT_str_str, isT_str_tup, isT_str_lst, isT_str_rol, isT_str_dct, isT_tuple_non, isT_tuple_bl, isT_tuple_int, isT_tuple_str, isT_tuple_tup, isT_tuple_lst, isT_tuple_rol, isT_tuple_dct, isT_list_non, isT_list_bl, isT_list_int, isT_list_str, isT_list_tup, isT_list_lst, isT_list_rol, isT_list_dct, isT_dict_non, isT_dict_bl, isT_dict_int, isT_dict_str, isT_dict_tup, isT_dict_lst, isT_dict_rol, isT_dict_dct, truQ_non, truQ_bl, truQ_int, truQ_tup, truQ_lst, blQ_bl, lenD_tup, lenD_lst, lenD_rol, lenD_str, tupD_tup, tupD_lst, lstD_tup, lstD_lst, lstD_rol, intD_i, intD_b, boolD_i, boolD_b, ixD_tup, ixD_lst, ixD_rol, slD_lst, slD_tup, intQ_i, appD_1, extD_1, lsQ_own, lsQ_bor, gTp_t, gsCons_c, seqQ_t, seqQ_l, seqQ_r, hideS_fz, hideS_own, hideS_bor, hideS_no, mmQ_ii, atI_0, atI_1, atI_2, List.map_cons, List.map_nil, List.replicate, List.cons_append, List.nil_append, List.append_nil, List.set, List.length_cons, List.length_nil, decide_eq_true_eq, if_true, if_false, Bool.not_true, Bool.not_false, Bool.false_eq_true, and_true, true_and, List.nodup_cons, List.not_mem_nil, not_false_eq_true, List.nodup_nil, List.mem_cons, or_false, List.getD, c'])
    exact ⟨(by rw [sizeLine_eq]; omega), by decide, (by rw [sizeLine_eq]; omega), (by rw [sizeLine_eq]; omega), (by rw [sizeLine_eq]; omega), (by rw [sizeLine_eq]; omega), h0⟩
theorem owed_s (d : D) : owedD (dueS d) d = [tS d, tS d, .tup [.str "told", .bl (isN (wsD d))]] := by
  unfold owedD dueS tS
  by_cases c : isN (wsD d) = true
  · rw [if_pos c, if_pos c, c]; rfl
  · have c' : isN (wsD d) = false := by simpa using c
    rw [if_neg c, if_neg c, c']; rfl
theorem owed_p (ss : List D) (d : D) (c : isN (wsD (.tup ss)) = true) : owedD (dueP ss d) d = [tP (.tup ss) d, tP (.tup ss) d, .tup [.str "told", .bl (isPg (.tup ss) d)]] := by
  unfold owedD dueP
  dsimp only [tP, isPg]
  rw [if_pos c, if_pos c]
  by_cases c2 : isN (wwD ss d) = true
  · rw [if_pos c2, if_pos c2, c2]; rfl
  · have c' : isN (wwD ss d) = false := by simpa using c2
    rw [if_neg c2, if_neg c2, c']; rfl
theorem owed_q (s d : D) (c : isN (wsD s) = false) : owedD (dueS s) d = [tP s d, tP s d, .tup [.str "told", .bl (isPg s d)]] := by
  have e1 : tP s d = .tup [.str "BadSizes", wsD s] := by
    cases s <;> first | rfl | (dsimp only [tP]; rw [if_neg (by rw [c]; decide)])
  have e2 : isPg s d = false := by
    cases s <;> first | rfl | (dsimp only [isPg]; rw [if_neg (by rw [c]; decide)])
  have e0 : dueS s = .tup [.str "BadSizes", wsD s] := if_neg (by rw [c]; decide)
  rw [e0, e1, e2]; rfl
theorem Yw {k : Nat} (d : D) : Y k (wsD d) := by
  cases d
  case tup ds =>
    dsimp only [wsD]
    split
    · rcases isN_firstN (p := p6) (i := 0) (ds := ds) with ⟨e, _⟩ | ⟨j, e⟩ <;> rw [e] <;> cases k <;> trivial
    · cases k <;> trivial
  all_goals (cases k <;> trivial)
theorem Yww {k : Nat} (ss : List D) (d : D) : Y k (wwD ss d) := by
  cases d
  case tup ds =>
    dsimp only [wwD]
    split
    · rcases isN_firstN (p := pw ss) (i := 0) (ds := ds) with ⟨e, _⟩ | ⟨j, e⟩ <;> rw [e] <;> cases k <;> trivial
    · cases k <;> trivial
  all_goals (cases k <;> trivial)
theorem Ytold {k : Nat} {s : Str} {d : D} (hs : s.length ≤ sizeLine ∧ PyData.strOk s = true) (h : Y k d) : Y (k + 1) (.tup [.str s, d]) := ⟨ln3 (by show 2 ≤ 1000; decide), fun e he => by
  rcases List.mem_cons.mp he with rfl | he
  · cases k <;> exact hs
  · rw [List.mem_singleton] at he
    rw [he]; exact h⟩
theorem st1 : (("told" : Str)).length ≤ sizeLine ∧ PyData.strOk ("told" : Str) = true := ⟨by rw [sizeLine_eq]; decide, by decide +kernel⟩
theorem st2 : (("BadSizes" : Str)).length ≤ sizeLine ∧ PyData.strOk ("BadSizes" : Str) = true := ⟨by rw [sizeLine_eq]; decide, by decide +kernel⟩
theorem st3 : (("BadPage" : Str)).length ≤ sizeLine ∧ PyData.strOk ("BadPage" : Str) = true := ⟨by rw [sizeLine_eq]; decide, by decide +kernel⟩
theorem YtS {k : Nat} {d : D} (h : Y k d) : Y (k + 1) (tS d) := by
  unfold tS
  split
  · exact Ytold st1 h
  · exact Ytold st2 (Yw d)
theorem YtP {k : Nat} {s d : D} (h : Y k d) : Y (k + 1) (tP s d) := by
  cases s
  case tup ss =>
    dsimp only [tP]
    split
    · split
      · exact Ytold st1 h
      · exact Ytold st3 (Yww ss d)
    · exact Ytold st2 (Yw _)
  all_goals exact Ytold st2 (Yw _)
theorem Ybl {k : Nat} {b : Bool} : Y (k + 1) (.tup [.str "told", .bl b]) := Ytold st1 (by cases k <;> trivial)
theorem Y3 {k : Nat} {a b c : D} (ha : Y k a) (hb : Y k b) (hc : Y k c) : Y (k + 1) (.lst [a, b, c]) := ⟨ln3 (by show 3 ≤ 1000; decide), fun e he => by
  simp only [List.mem_cons, List.not_mem_nil, or_false] at he
  rcases he with rfl | rfl | rfl
  · exact ha
  · exact hb
  · exact hc⟩
theorem Y.len {k : Nat} {ds : List D} (h : Y k (.tup ds)) : ds.length ≤ sizeLine := by
  cases k with
  | zero => exact h.elim
  | succ k => exact h.1
theorem w_sizes_right {d : D} {Q : Rv → List OC → Prop} {ED : Nat → D → Prop} (hY : Y 50 d) (h0 : Q (.fz (.bl true)) []) : sp_sizes_right [.fz d] Q ED := by
  refine ⟨rfl, ?_⟩
  (try simp only [dSeq, dIfS, dRet, dRetN, dNext, dSet, dSetO, dDrop, dCall, callQ, dCallKw, dCons, dNil, dBor, dsQ, dTup, dLst, dV, dC, slot, dOp, dUn, dCmp, dCmpT, dChain, dChainT, dTru, dAnd, dOr, dNot, dAndV, dOrV, dNotV, dIf, dIsi, dNoO, dSoO, dSl, bodyQ, endsOf, outsOf, lents, putB, lentQ, dAsg, gNm, gsNil, iSeq, iRng, DL.iRng2, iEnm, dLm, dLm0, dPut, dMm, dYes, hQ, isSub, hideE, pick_0, pick_10, pick_210, rep2, kg, dFor, dLc, wipeD, restD, dPar, ixN3_0, ixN3_1, ixN3_2, ex_some, dRaise_1, dHeard_e, List.set_cons_zero, List.set_cons_succ, rdQ_fz, rdQ_own, rdQ_at, rdS_fz, rdS_own, rdS_bor, frzQ_fz, frzQ_own, frzQ_at, frS_fz, frS_own, nmQ_s, nmS_fz, nmS_own, nmS_bor, retQ_fz, retQ_own, retQ_at, rtS_fz, rtS_own, argsOf_at, argsOf_d, argsOf_n, lnS_own, lnS_bor, lnS_fz, reS_o, reS_b, setF_d, setO_own, setO_fz, setO_at, notBor_fz, notBor_own, notBor_no, isOwn_own, isOwn_bor, addD_ii, addD_ss, addD_ll, addD_tt, subD_ii, mulD_ii, mulD_li, mulD_ti, fdivD_ii, modD_ii, powD_ii, negD_i, ltD_ii, leD_ii, gtD_ii, geD_ii, isQ_n, isQ_b, nisQ_n, isN_non, isN_bl, isN_int, isN_str, isN_tup, isN_lst, isN_rol, isN_dct, isT_int_non, isT_int_bl, isT_int_int, isT_int_str, isT_int_tup, isT_int_lst, isT_int_rol, isT_int_dct, isT_bool_non, isT_bool_bl, isT_bool_int, isT_bool_str, isT_bool_tup, isT_bool_lst, isT_bool_rol, isT_bool_dct, isT_str_non, isT_str_bl, isT_str_int, isT_str_str, isT_str_tup, isT_str_lst, isT_str_rol, isT_str_dct, isT_tuple_non, isT_tuple_bl, isT_tuple_int, isT_tuple_str, isT_tuple_tup, isT_tuple_lst, isT_tuple_rol, isT_tuple_dct, isT_list_non, isT_list_bl, isT_list_int, isT_list_str, isT_list_tup, isT_list_lst, isT_list_rol, isT_list_dct, isT_dict_non, isT_dict_bl, isT_dict_int, isT_dict_str, isT_dict_tup, isT_dict_lst, isT_dict_rol, isT_dict_dct, truQ_non, truQ_bl, truQ_int, truQ_tup, truQ_lst, blQ_bl, lenD_tup, lenD_lst, lenD_rol, lenD_str, tupD_tup, tupD_lst, lstD_tup, lstD_lst, lstD_rol, intD_i, intD_b, boolD_i, boolD_b, ixD_tup, ixD_lst, ixD_rol, slD_lst, slD_tup, intQ_i, appD_1, extD_1, lsQ_own, lsQ_bor, gTp_t, gsCons_c, seqQ_t, seqQ_l, seqQ_r, hideS_fz, hideS_own, hideS_bor, hideS_no, mmQ_ii, atI_0, atI_1, atI_2, List.map_cons, List.map_nil, List.replicate, List.cons_append, List.nil_append, List.append_nil, List.set, List.length_cons, List.length_nil, decide_eq_true_eq, if_true, if_false, Bool.not_true, Bool.not_false, Bool.false_eq_true, and_true, true_and, List.nodup_cons, List.not_mem_nil, not_false_eq_true, List.nodup_nil, List.mem_cons, or_false, List.getD, td_sizes_right])
  refine ⟨(by simp [lents, slot, Sl.isOwn]), w_sizes_told ?_⟩
  (try simp only [dSeq, dIfS, dRet, dRetN, dNext, dSet, dSetO, dDrop, dCall, callQ, dCallKw, dCons, dNil, dBor, dsQ, dTup, dLst, dV, dC, slot, dOp, dUn, dCmp, dCmpT, dChain, dChainT, dTru, dAnd, dOr, dNot, dAndV, dOrV, dNotV, dIf, dIsi, dNoO, dSoO, dSl, bodyQ, endsOf, outsOf, lents, putB, lentQ, dAsg, gNm, gsNil, iSeq, iRng, DL.iRng2, iEnm, dLm, dLm0, dPut, dMm, dYes, hQ, isSub, hideE, pick_0, pick_10, pick_210, rep2, kg, dFor, dLc, wipeD, restD, dPar, ixN3_0, ixN3_1, ixN3_2, ex_some, dRaise_1, dHeard_e, List.set_cons_zero, List.set_cons_succ, rdQ_fz, rdQ_own, rdQ_at, rdS_fz, rdS_own, rdS_bor, frzQ_fz, frzQ_own, frzQ_at, frS_fz, frS_own, nmQ_s, nmS_fz, nmS_own, nmS_bor, retQ_fz, retQ_own, retQ_at, rtS_fz, rtS_own, argsOf_at, argsOf_d, argsOf_n, lnS_own, lnS_bor, lnS_fz, reS_o, reS_b, setF_d, setO_own, setO_fz, setO_at, notBor_fz, notBor_own, notBor_no, isOwn_own, isOwn_bor, addD_ii, addD_ss, addD_ll, addD_tt, subD_ii, mulD_ii, mulD_li, mulD_ti, fdivD_ii, modD_ii, powD_ii, negD_i, ltD_ii, leD_ii, gtD_ii, geD_ii, isQ_n, isQ_b, nisQ_n, isN_non, isN_bl, isN_int, isN_str, isN_tup, isN_lst, isN_rol, isN_dct, isT_int_non, isT_int_bl, isT_int_int, isT_int_str, isT_int_tup, isT_int_lst, isT_int_rol, isT_int_dct, isT_bool_non, isT_bool_bl, isT_bool_int, isT_bool_str, isT_bool_tup, isT_bool_lst, isT_bool_rol, isT_bool_dct, isT_str_non, isT_str_bl, isT_str_int, isT_str_str, isT_str_tup, isT_str_lst, isT_str_rol, isT_str_dct, isT_tuple_non, isT_tuple_bl, isT_tuple_int, isT_tuple_str, isT_tuple_tup, isT_tuple_lst, isT_tuple_rol, isT_tuple_dct, isT_list_non, isT_list_bl, isT_list_int, isT_list_str, isT_list_tup, isT_list_lst, isT_list_rol, isT_list_dct, isT_dict_non, isT_dict_bl, isT_dict_int, isT_dict_str, isT_dict_tup, isT_dict_lst, isT_dict_rol, isT_dict_dct, truQ_non, truQ_bl, truQ_int, truQ_tup, truQ_lst, blQ_bl, lenD_tup, lenD_lst, lenD_rol, lenD_str, tupD_tup, tupD_lst, lstD_tup, lstD_lst, lstD_rol, intD_i, intD_b, boolD_i, boolD_b, ixD_tup, ixD_lst, ixD_rol, slD_lst, slD_tup, intQ_i, appD_1, extD_1, lsQ_own, lsQ_bor, gTp_t, gsCons_c, seqQ_t, seqQ_l, seqQ_r, hideS_fz, hideS_own, hideS_bor, hideS_no, mmQ_ii, atI_0, atI_1, atI_2, List.map_cons, List.map_nil, List.replicate, List.cons_append, List.nil_append, List.append_nil, List.set, List.length_cons, List.length_nil, decide_eq_true_eq, if_true, if_false, Bool.not_true, Bool.not_false, Bool.false_eq_true, and_true, true_and, List.nodup_cons, List.not_mem_nil, not_false_eq_true, List.nodup_nil, List.mem_cons, or_false, List.getD])
  refine ⟨(by simp [lents, slot, Sl.isOwn]), w_zc_sizes_due (fun ds e => by subst e; exact Y.len (k := 50) hY) ?_⟩
  (try simp only [dSeq, dIfS, dRet, dRetN, dNext, dSet, dSetO, dDrop, dCall, callQ, dCallKw, dCons, dNil, dBor, dsQ, dTup, dLst, dV, dC, slot, dOp, dUn, dCmp, dCmpT, dChain, dChainT, dTru, dAnd, dOr, dNot, dAndV, dOrV, dNotV, dIf, dIsi, dNoO, dSoO, dSl, bodyQ, endsOf, outsOf, lents, putB, lentQ, dAsg, gNm, gsNil, iSeq, iRng, DL.iRng2, iEnm, dLm, dLm0, dPut, dMm, dYes, hQ, isSub, hideE, pick_0, pick_10, pick_210, rep2, kg, dFor, dLc, wipeD, restD, dPar, ixN3_0, ixN3_1, ixN3_2, ex_some, dRaise_1, dHeard_e, List.set_cons_zero, List.set_cons_succ, rdQ_fz, rdQ_own, rdQ_at, rdS_fz, rdS_own, rdS_bor, frzQ_fz, frzQ_own, frzQ_at, frS_fz, frS_own, nmQ_s, nmS_fz, nmS_own, nmS_bor, retQ_fz, retQ_own, retQ_at, rtS_fz, rtS_own, argsOf_at, argsOf_d, argsOf_n, lnS_own, lnS_bor, lnS_fz, reS_o, reS_b, setF_d, setO_own, setO_fz, setO_at, notBor_fz, notBor_own, notBor_no, isOwn_own, isOwn_bor, addD_ii, addD_ss, addD_ll, addD_tt, subD_ii, mulD_ii, mulD_li, mulD_ti, fdivD_ii, modD_ii, powD_ii, negD_i, ltD_ii, leD_ii, gtD_ii, geD_ii, isQ_n, isQ_b, nisQ_n, isN_non, isN_bl, isN_int, isN_str, isN_tup, isN_lst, isN_rol, isN_dct, isT_int_non, isT_int_bl, isT_int_int, isT_int_str, isT_int_tup, isT_int_lst, isT_int_rol, isT_int_dct, isT_bool_non, isT_bool_bl, isT_bool_int, isT_bool_str, isT_bool_tup, isT_bool_lst, isT_bool_rol, isT_bool_dct, isT_str_non, isT_str_bl, isT_str_int, isT_str_str, isT_str_tup, isT_str_lst, isT_str_rol, isT_str_dct, isT_tuple_non, isT_tuple_bl, isT_tuple_int, isT_tuple_str, isT_tuple_tup, isT_tuple_lst, isT_tuple_rol, isT_tuple_dct, isT_list_non, isT_list_bl, isT_list_int, isT_list_str, isT_list_tup, isT_list_lst, isT_list_rol, isT_list_dct, isT_dict_non, isT_dict_bl, isT_dict_int, isT_dict_str, isT_dict_tup, isT_dict_lst, isT_dict_rol, isT_dict_dct, truQ_non, truQ_bl, truQ_int, truQ_tup, truQ_lst, blQ_bl, lenD_tup, lenD_lst, lenD_rol, lenD_str, tupD_tup, tupD_lst, lstD_tup, lstD_lst, lstD_rol, intD_i, intD_b, boolD_i, boolD_b, ixD_tup, ixD_lst, ixD_rol, slD_lst, slD_tup, intQ_i, appD_1, extD_1, lsQ_own, lsQ_bor, gTp_t, gsCons_c, seqQ_t, seqQ_l, seqQ_r, hideS_fz, hideS_own, hideS_bor, hideS_no, mmQ_ii, atI_0, atI_1, atI_2, List.map_cons, List.map_nil, List.replicate, List.cons_append, List.nil_append, List.append_nil, List.set, List.length_cons, List.length_nil, decide_eq_true_eq, if_true, if_false, Bool.not_true, Bool.not_false, Bool.false_eq_true, and_true, true_and, List.nodup_cons, List.not_mem_nil, not_false_eq_true, List.nodup_nil, List.mem_cons, or_false, List.getD])
  refine ⟨(by simp [lents, slot, Sl.isOwn]), w_owed ?_⟩
  (try simp only [dSeq, dIfS, dRet, dRetN, dNext, dSet, dSetO, dDrop, dCall, callQ, dCallKw, dCons, dNil, dBor, dsQ, dTup, dLst, dV, dC, slot, dOp, dUn, dCmp, dCmpT, dChain, dChainT, dTru, dAnd, dOr, dNot, dAndV, dOrV, dNotV, dIf, dIsi, dNoO, dSoO, dSl, bodyQ, endsOf, outsOf, lents, putB, lentQ, dAsg, gNm, gsNil, iSeq, iRng, DL.iRng2, iEnm, dLm, dLm0, dPut, dMm, dYes, hQ, isSub, hideE, pick_0, pick_10, pick_210, rep2, kg, dFor, dLc, wipeD, restD, dPar, ixN3_0, ixN3_1, ixN3_2, ex_some, dRaise_1, dHeard_e, List.set_cons_zero, List.set_cons_succ, rdQ_fz, rdQ_own, rdQ_at, rdS_fz, rdS_own, rdS_bor, frzQ_fz, frzQ_own, frzQ_at, frS_fz, frS_own, nmQ_s, nmS_fz, nmS_own, nmS_bor, retQ_fz, retQ_own, retQ_at, rtS_fz, rtS_own, argsOf_at, argsOf_d, argsOf_n, lnS_own, lnS_bor, lnS_fz, reS_o, reS_b, setF_d, setO_own, setO_fz, setO_at, notBor_fz, notBor_own, notBor_no, isOwn_own, isOwn_bor, addD_ii, addD_ss, addD_ll, addD_tt, subD_ii, mulD_ii, mulD_li, mulD_ti, fdivD_ii, modD_ii, powD_ii, negD_i, ltD_ii, leD_ii, gtD_ii, geD_ii, isQ_n, isQ_b, nisQ_n, isN_non, isN_bl, isN_int, isN_str, isN_tup, isN_lst, isN_rol, isN_dct, isT_int_non, isT_int_bl, isT_int_int, isT_int_str, isT_int_tup, isT_int_lst, isT_int_rol, isT_int_dct, isT_bool_non, isT_bool_bl, isT_bool_int, isT_bool_str, isT_bool_tup, isT_bool_lst, isT_bool_rol, isT_bool_dct, isT_str_non, isT_str_bl, isT_str_int, isT_str_str, isT_str_tup, isT_str_lst, isT_str_rol, isT_str_dct, isT_tuple_non, isT_tuple_bl, isT_tuple_int, isT_tuple_str, isT_tuple_tup, isT_tuple_lst, isT_tuple_rol, isT_tuple_dct, isT_list_non, isT_list_bl, isT_list_int, isT_list_str, isT_list_tup, isT_list_lst, isT_list_rol, isT_list_dct, isT_dict_non, isT_dict_bl, isT_dict_int, isT_dict_str, isT_dict_tup, isT_dict_lst, isT_dict_rol, isT_dict_dct, truQ_non, truQ_bl, truQ_int, truQ_tup, truQ_lst, blQ_bl, lenD_tup, lenD_lst, lenD_rol, lenD_str, tupD_tup, tupD_lst, lstD_tup, lstD_lst, lstD_rol, intD_i, intD_b, boolD_i, boolD_b, ixD_tup, ixD_lst, ixD_rol, slD_lst, slD_tup, intQ_i, appD_1, extD_1, lsQ_own, lsQ_bor, gTp_t, gsCons_c, seqQ_t, seqQ_l, seqQ_r, hideS_fz, hideS_own, hideS_bor, hideS_no, mmQ_ii, atI_0, atI_1, atI_2, List.map_cons, List.map_nil, List.replicate, List.cons_append, List.nil_append, List.append_nil, List.set, List.length_cons, List.length_nil, decide_eq_true_eq, if_true, if_false, Bool.not_true, Bool.not_false, Bool.false_eq_true, and_true, true_and, List.nodup_cons, List.not_mem_nil, not_false_eq_true, List.nodup_nil, List.mem_cons, or_false, List.getD])
  rw [owed_s]
  refine ⟨(by simp [lents, slot, Sl.isOwn]), w_same 59 _ _ _ ((Y3 (YtS hY) (YtS hY) Ybl).le (by decide)) ?_⟩
  (try simp only [dSeq, dIfS, dRet, dRetN, dNext, dSet, dSetO, dDrop, dCall, callQ, dCallKw, dCons, dNil, dBor, dsQ, dTup, dLst, dV, dC, slot, dOp, dUn, dCmp, dCmpT, dChain, dChainT, dTru, dAnd, dOr, dNot, dAndV, dOrV, dNotV, dIf, dIsi, dNoO, dSoO, dSl, bodyQ, endsOf, outsOf, lents, putB, lentQ, dAsg, gNm, gsNil, iSeq, iRng, DL.iRng2, iEnm, dLm, dLm0, dPut, dMm, dYes, hQ, isSub, hideE, pick_0, pick_10, pick_210, rep2, kg, dFor, dLc, wipeD, restD, dPar, ixN3_0, ixN3_1, ixN3_2, ex_some, dRaise_1, dHeard_e, List.set_cons_zero, List.set_cons_succ, rdQ_fz, rdQ_own, rdQ_at, rdS_fz, rdS_own, rdS_bor, frzQ_fz, frzQ_own, frzQ_at, frS_fz, frS_own, nmQ_s, nmS_fz, nmS_own, nmS_bor, retQ_fz, retQ_own, retQ_at, rtS_fz, rtS_own, argsOf_at, argsOf_d, argsOf_n, lnS_own, lnS_bor, lnS_fz, reS_o, reS_b, setF_d, setO_own, setO_fz, setO_at, notBor_fz, notBor_own, notBor_no, isOwn_own, isOwn_bor, addD_ii, addD_ss, addD_ll, addD_tt, subD_ii, mulD_ii, mulD_li, mulD_ti, fdivD_ii, modD_ii, powD_ii, negD_i, ltD_ii, leD_ii, gtD_ii, geD_ii, isQ_n, isQ_b, nisQ_n, isN_non, isN_bl, isN_int, isN_str, isN_tup, isN_lst, isN_rol, isN_dct, isT_int_non, isT_int_bl, isT_int_int, isT_int_str, isT_int_tup, isT_int_lst, isT_int_rol, isT_int_dct, isT_bool_non, isT_bool_bl, isT_bool_int, isT_bool_str, isT_bool_tup, isT_bool_lst, isT_bool_rol, isT_bool_dct, isT_str_non, isT_str_bl, isT_str_int, isT_str_str, isT_str_tup, isT_str_lst, isT_str_rol, isT_str_dct, isT_tuple_non, isT_tuple_bl, isT_tuple_int, isT_tuple_str, isT_tuple_tup, isT_tuple_lst, isT_tuple_rol, isT_tuple_dct, isT_list_non, isT_list_bl, isT_list_int, isT_list_str, isT_list_tup, isT_list_lst, isT_list_rol, isT_list_dct, isT_dict_non, isT_dict_bl, isT_dict_int, isT_dict_str, isT_dict_tup, isT_dict_lst, isT_dict_rol, isT_dict_dct, truQ_non, truQ_bl, truQ_int, truQ_tup, truQ_lst, blQ_bl, lenD_tup, lenD_lst, lenD_rol, lenD_str, tupD_tup, tupD_lst, lstD_tup, lstD_lst, lstD_rol, intD_i, intD_b, boolD_i, boolD_b, ixD_tup, ixD_lst, ixD_rol, slD_lst, slD_tup, intQ_i, appD_1, extD_1, lsQ_own, lsQ_bor, gTp_t, gsCons_c, seqQ_t, seqQ_l, seqQ_r, hideS_fz, hideS_own, hideS_bor, hideS_no, mmQ_ii, atI_0, atI_1, atI_2, List.map_cons, List.map_nil, List.replicate, List.cons_append, List.nil_append, List.append_nil, List.set, List.length_cons, List.length_nil, decide_eq_true_eq, if_true, if_false, Bool.not_true, Bool.not_false, Bool.false_eq_true, and_true, true_and, List.nodup_cons, List.not_mem_nil, not_false_eq_true, List.nodup_nil, List.mem_cons, or_false, List.getD])
  all_goals exact h0
theorem w_page_right {s d : D} {Q : Rv → List OC → Prop} {ED : Nat → D → Prop} (hS : Y 50 s) (hY : Y 50 d) (h0 : Q (.fz (.bl true)) []) : sp_page_right [.fz s, .fz d] Q ED := by
  refine ⟨rfl, ?_⟩
  (try simp only [dSeq, dIfS, dRet, dRetN, dNext, dSet, dSetO, dDrop, dCall, callQ, dCallKw, dCons, dNil, dBor, dsQ, dTup, dLst, dV, dC, slot, dOp, dUn, dCmp, dCmpT, dChain, dChainT, dTru, dAnd, dOr, dNot, dAndV, dOrV, dNotV, dIf, dIsi, dNoO, dSoO, dSl, bodyQ, endsOf, outsOf, lents, putB, lentQ, dAsg, gNm, gsNil, iSeq, iRng, DL.iRng2, iEnm, dLm, dLm0, dPut, dMm, dYes, hQ, isSub, hideE, pick_0, pick_10, pick_210, rep2, kg, dFor, dLc, wipeD, restD, dPar, ixN3_0, ixN3_1, ixN3_2, ex_some, dRaise_1, dHeard_e, List.set_cons_zero, List.set_cons_succ, rdQ_fz, rdQ_own, rdQ_at, rdS_fz, rdS_own, rdS_bor, frzQ_fz, frzQ_own, frzQ_at, frS_fz, frS_own, nmQ_s, nmS_fz, nmS_own, nmS_bor, retQ_fz, retQ_own, retQ_at, rtS_fz, rtS_own, argsOf_at, argsOf_d, argsOf_n, lnS_own, lnS_bor, lnS_fz, reS_o, reS_b, setF_d, setO_own, setO_fz, setO_at, notBor_fz, notBor_own, notBor_no, isOwn_own, isOwn_bor, addD_ii, addD_ss, addD_ll, addD_tt, subD_ii, mulD_ii, mulD_li, mulD_ti, fdivD_ii, modD_ii, powD_ii, negD_i, ltD_ii, leD_ii, gtD_ii, geD_ii, isQ_n, isQ_b, nisQ_n, isN_non, isN_bl, isN_int, isN_str, isN_tup, isN_lst, isN_rol, isN_dct, isT_int_non, isT_int_bl, isT_int_int, isT_int_str, isT_int_tup, isT_int_lst, isT_int_rol, isT_int_dct, isT_bool_non, isT_bool_bl, isT_bool_int, isT_bool_str, isT_bool_tup, isT_bool_lst, isT_bool_rol, isT_bool_dct, isT_str_non, isT_str_bl, isT_str_int, isT_str_str, isT_str_tup, isT_str_lst, isT_str_rol, isT_str_dct, isT_tuple_non, isT_tuple_bl, isT_tuple_int, isT_tuple_str, isT_tuple_tup, isT_tuple_lst, isT_tuple_rol, isT_tuple_dct, isT_list_non, isT_list_bl, isT_list_int, isT_list_str, isT_list_tup, isT_list_lst, isT_list_rol, isT_list_dct, isT_dict_non, isT_dict_bl, isT_dict_int, isT_dict_str, isT_dict_tup, isT_dict_lst, isT_dict_rol, isT_dict_dct, truQ_non, truQ_bl, truQ_int, truQ_tup, truQ_lst, blQ_bl, lenD_tup, lenD_lst, lenD_rol, lenD_str, tupD_tup, tupD_lst, lstD_tup, lstD_lst, lstD_rol, intD_i, intD_b, boolD_i, boolD_b, ixD_tup, ixD_lst, ixD_rol, slD_lst, slD_tup, intQ_i, appD_1, extD_1, lsQ_own, lsQ_bor, gTp_t, gsCons_c, seqQ_t, seqQ_l, seqQ_r, hideS_fz, hideS_own, hideS_bor, hideS_no, mmQ_ii, atI_0, atI_1, atI_2, List.map_cons, List.map_nil, List.replicate, List.cons_append, List.nil_append, List.append_nil, List.set, List.length_cons, List.length_nil, decide_eq_true_eq, if_true, if_false, Bool.not_true, Bool.not_false, Bool.false_eq_true, and_true, true_and, List.nodup_cons, List.not_mem_nil, not_false_eq_true, List.nodup_nil, List.mem_cons, or_false, List.getD, td_page_right])
  refine ⟨(by simp [lents, slot, Sl.isOwn]), w_zc_sizes_due (fun ds e => by subst e; exact Y.len (k := 50) hS) ?_⟩
  (try simp only [dSeq, dIfS, dRet, dRetN, dNext, dSet, dSetO, dDrop, dCall, callQ, dCallKw, dCons, dNil, dBor, dsQ, dTup, dLst, dV, dC, slot, dOp, dUn, dCmp, dCmpT, dChain, dChainT, dTru, dAnd, dOr, dNot, dAndV, dOrV, dNotV, dIf, dIsi, dNoO, dSoO, dSl, bodyQ, endsOf, outsOf, lents, putB, lentQ, dAsg, gNm, gsNil, iSeq, iRng, DL.iRng2, iEnm, dLm, dLm0, dPut, dMm, dYes, hQ, isSub, hideE, pick_0, pick_10, pick_210, rep2, kg, dFor, dLc, wipeD, restD, dPar, ixN3_0, ixN3_1, ixN3_2, ex_some, dRaise_1, dHeard_e, List.set_cons_zero, List.set_cons_succ, rdQ_fz, rdQ_own, rdQ_at, rdS_fz, rdS_own, rdS_bor, frzQ_fz, frzQ_own, frzQ_at, frS_fz, frS_own, nmQ_s, nmS_fz, nmS_own, nmS_bor, retQ_fz, retQ_own, retQ_at, rtS_fz, rtS_own, argsOf_at, argsOf_d, argsOf_n, lnS_own, lnS_bor, lnS_fz, reS_o, reS_b, setF_d, setO_own, setO_fz, setO_at, notBor_fz, notBor_own, notBor_no, isOwn_own, isOwn_bor, addD_ii, addD_ss, addD_ll, addD_tt, subD_ii, mulD_ii, mulD_li, mulD_ti, fdivD_ii, modD_ii, powD_ii, negD_i, ltD_ii, leD_ii, gtD_ii, geD_ii, isQ_n, isQ_b, nisQ_n, isN_non, isN_bl, isN_int, isN_str, isN_tup, isN_lst, isN_rol, isN_dct, isT_int_non, isT_int_bl, isT_int_int, isT_int_str, isT_int_tup, isT_int_lst, isT_int_rol, isT_int_dct, isT_bool_non, isT_bool_bl, isT_bool_int, isT_bool_str, isT_bool_tup, isT_bool_lst, isT_bool_rol, isT_bool_dct, isT_str_non, isT_str_bl, isT_str_int, isT_str_str, isT_str_tup, isT_str_lst, isT_str_rol, isT_str_dct, isT_tuple_non, isT_tuple_bl, isT_tuple_int, isT_tuple_str, isT_tuple_tup, isT_tuple_lst, isT_tuple_rol, isT_tuple_dct, isT_list_non, isT_list_bl, isT_list_int, isT_list_str, isT_list_tup, isT_list_lst, isT_list_rol, isT_list_dct, isT_dict_non, isT_dict_bl, isT_dict_int, isT_dict_str, isT_dict_tup, isT_dict_lst, isT_dict_rol, isT_dict_dct, truQ_non, truQ_bl, truQ_int, truQ_tup, truQ_lst, blQ_bl, lenD_tup, lenD_lst, lenD_rol, lenD_str, tupD_tup, tupD_lst, lstD_tup, lstD_lst, lstD_rol, intD_i, intD_b, boolD_i, boolD_b, ixD_tup, ixD_lst, ixD_rol, slD_lst, slD_tup, intQ_i, appD_1, extD_1, lsQ_own, lsQ_bor, gTp_t, gsCons_c, seqQ_t, seqQ_l, seqQ_r, hideS_fz, hideS_own, hideS_bor, hideS_no, mmQ_ii, atI_0, atI_1, atI_2, List.map_cons, List.map_nil, List.replicate, List.cons_append, List.nil_append, List.append_nil, List.set, List.length_cons, List.length_nil, decide_eq_true_eq, if_true, if_false, Bool.not_true, Bool.not_false, Bool.false_eq_true, and_true, true_and, List.nodup_cons, List.not_mem_nil, not_false_eq_true, List.nodup_nil, List.mem_cons, or_false, List.getD])
  have fin : ∀ du, owedD du d = [tP s d, tP s d, .tup [.str "told", .bl (isPg s d)]] → (((lents [Ar.d s, Ar.d d]).Nodup ∧ ∀ i ∈ lents [Ar.d s, Ar.d d], (slot [Sl.fz s, .fz d, .fz du] i).isOwn = true) ∧ True) := fun _ _ => ⟨(by simp [lents, slot, Sl.isOwn]), trivial⟩
  by_cases c : isN (wsD s) = true
  · have hs : ∃ ss, s = .tup ss := by
      cases s <;> first | exact ⟨_, rfl⟩ | cases c
    obtain ⟨ss, rfl⟩ := hs
    have e : dueS (.tup ss) = .non := by unfold dueS; rw [if_pos c]
    rw [e]
    (try simp only [dSeq, dIfS, dRet, dRetN, dNext, dSet, dSetO, dDrop, dCall, callQ, dCallKw, dCons, dNil, dBor, dsQ, dTup, dLst, dV, dC, slot, dOp, dUn, dCmp, dCmpT, dChain, dChainT, dTru, dAnd, dOr, dNot, dAndV, dOrV, dNotV, dIf, dIsi, dNoO, dSoO, dSl, bodyQ, endsOf, outsOf, lents, putB, lentQ, dAsg, gNm, gsNil, iSeq, iRng, DL.iRng2, iEnm, dLm, dLm0, dPut, dMm, dYes, hQ, isSub, hideE, pick_0, pick_10, pick_210, rep2, kg, dFor, dLc, wipeD, restD, dPar, ixN3_0, ixN3_1, ixN3_2, ex_some, dRaise_1, dHeard_e, List.set_cons_zero, List.set_cons_succ, rdQ_fz, rdQ_own, rdQ_at, rdS_fz, rdS_own, rdS_bor, frzQ_fz, frzQ_own, frzQ_at, frS_fz, frS_own, nmQ_s, nmS_fz, nmS_own, nmS_bor, retQ_fz, retQ_own, retQ_at, rtS_fz, rtS_own, argsOf_at, argsOf_d, argsOf_n, lnS_own, lnS_bor, lnS_fz, reS_o, reS_b, setF_d, setO_own, setO_fz, setO_at, notBor_fz, notBor_own, notBor_no, isOwn_own, isOwn_bor, addD_ii, addD_ss, addD_ll, addD_tt, subD_ii, mulD_ii, mulD_li, mulD_ti, fdivD_ii, modD_ii, powD_ii, negD_i, ltD_ii, leD_ii, gtD_ii, geD_ii, isQ_n, isQ_b, nisQ_n, isN_non, isN_bl, isN_int, isN_str, isN_tup, isN_lst, isN_rol, isN_dct, isT_int_non, isT_int_bl, isT_int_int, isT_int_str, isT_int_tup, isT_int_lst, isT_int_rol, isT_int_dct, isT_bool_non, isT_bool_bl, isT_bool_int, isT_bool_str, isT_bool_tup, isT_bool_lst, isT_bool_rol, isT_bool_dct, isT_str_non, isT_str_bl, isT_str_int, isT_str_str, isT_str_tup, isT_str_lst, isT_str_rol, isT_str_dct, isT_tuple_non, isT_tuple_bl, isT_tuple_int, isT_tuple_str, isT_tuple_tup, isT_tuple_lst, isT_tuple_rol, isT_tuple_dct, isT_list_non, isT_list_bl, isT_list_int, isT_list_str, isT_list_tup, isT_list_lst, isT_list_rol, isT_list_dct, isT_dict_non, isT_dict_bl, isT_dict_int, isT_dict_str, isT_dict_tup, isT_dict_lst, isT_dict_rol, isT_dict_dct, truQ_non, truQ_bl, truQ_int, truQ_tup, truQ_lst, blQ_bl, lenD_tup, lenD_lst, lenD_rol, lenD_str, tupD_tup, tupD_lst, lstD_tup, lstD_lst, lstD_rol, intD_i, intD_b, boolD_i, boolD_b, ixD_tup, ixD_lst, ixD_rol, slD_lst, slD_tup, intQ_i, appD_1, extD_1, lsQ_own, lsQ_bor, gTp_t, gsCons_c, seqQ_t, seqQ_l, seqQ_r, hideS_fz, hideS_own, hideS_bor, hideS_no, mmQ_ii, atI_0, atI_1, atI_2, List.map_cons, List.map_nil, List.replicate, List.cons_append, List.nil_append, List.append_nil, List.set, List.length_cons, List.length_nil, decide_eq_true_eq, if_true, if_false, Bool.not_true, Bool.not_false, Bool.false_eq_true, and_true, true_and, List.nodup_cons, List.not_mem_nil, not_false_eq_true, List.nodup_nil, List.mem_cons, or_false, List.getD])
    refine ⟨(by simp [lents, slot, Sl.isOwn]), w_zc_page_due (ints_of c) (Y.len (k := 50) hS) ?_⟩
    (try simp only [dSeq, dIfS, dRet, dRetN, dNext, dSet, dSetO, dDrop, dCall, callQ, dCallKw, dCons, dNil, dBor, dsQ, dTup, dLst, dV, dC, slot, dOp, dUn, dCmp, dCmpT, dChain, dChainT, dTru, dAnd, dOr, dNot, dAndV, dOrV, dNotV, dIf, dIsi, dNoO, dSoO, dSl, bodyQ, endsOf, outsOf, lents, putB, lentQ, dAsg, gNm, gsNil, iSeq, iRng, DL.iRng2, iEnm, dLm, dLm0, dPut, dMm, dYes, hQ, isSub, hideE, pick_0, pick_10, pick_210, rep2, kg, dFor, dLc, wipeD, restD, dPar, ixN3_0, ixN3_1, ixN3_2, ex_some, dRaise_1, dHeard_e, List.set_cons_zero, List.set_cons_succ, rdQ_fz, rdQ_own, rdQ_at, rdS_fz, rdS_own, rdS_bor, frzQ_fz, frzQ_own, frzQ_at, frS_fz, frS_own, nmQ_s, nmS_fz, nmS_own, nmS_bor, retQ_fz, retQ_own, retQ_at, rtS_fz, rtS_own, argsOf_at, argsOf_d, argsOf_n, lnS_own, lnS_bor, lnS_fz, reS_o, reS_b, setF_d, setO_own, setO_fz, setO_at, notBor_fz, notBor_own, notBor_no, isOwn_own, isOwn_bor, addD_ii, addD_ss, addD_ll, addD_tt, subD_ii, mulD_ii, mulD_li, mulD_ti, fdivD_ii, modD_ii, powD_ii, negD_i, ltD_ii, leD_ii, gtD_ii, geD_ii, isQ_n, isQ_b, nisQ_n, isN_non, isN_bl, isN_int, isN_str, isN_tup, isN_lst, isN_rol, isN_dct, isT_int_non, isT_int_bl, isT_int_int, isT_int_str, isT_int_tup, isT_int_lst, isT_int_rol, isT_int_dct, isT_bool_non, isT_bool_bl, isT_bool_int, isT_bool_str, isT_bool_tup, isT_bool_lst, isT_bool_rol, isT_bool_dct, isT_str_non, isT_str_bl, isT_str_int, isT_str_str, isT_str_tup, isT_str_lst, isT_str_rol, isT_str_dct, isT_tuple_non, isT_tuple_bl, isT_tuple_int, isT_tuple_str, isT_tuple_tup, isT_tuple_lst, isT_tuple_rol, isT_tuple_dct, isT_list_non, isT_list_bl, isT_list_int, isT_list_str, isT_list_tup, isT_list_lst, isT_list_rol, isT_list_dct, isT_dict_non, isT_dict_bl, isT_dict_int, isT_dict_str, isT_dict_tup, isT_dict_lst, isT_dict_rol, isT_dict_dct, truQ_non, truQ_bl, truQ_int, truQ_tup, truQ_lst, blQ_bl, lenD_tup, lenD_lst, lenD_rol, lenD_str, tupD_tup, tupD_lst, lstD_tup, lstD_lst, lstD_rol, intD_i, intD_b, boolD_i, boolD_b, ixD_tup, ixD_lst, ixD_rol, slD_lst, slD_tup, intQ_i, appD_1, extD_1, lsQ_own, lsQ_bor, gTp_t, gsCons_c, seqQ_t, seqQ_l, seqQ_r, hideS_fz, hideS_own, hideS_bor, hideS_no, mmQ_ii, atI_0, atI_1, atI_2, List.map_cons, List.map_nil, List.replicate, List.cons_append, List.nil_append, List.append_nil, List.set, List.length_cons, List.length_nil, decide_eq_true_eq, if_true, if_false, Bool.not_true, Bool.not_false, Bool.false_eq_true, and_true, true_and, List.nodup_cons, List.not_mem_nil, not_false_eq_true, List.nodup_nil, List.mem_cons, or_false, List.getD])
    refine ⟨(by simp [lents, slot, Sl.isOwn]), w_page_told ?_⟩
    (try simp only [dSeq, dIfS, dRet, dRetN, dNext, dSet, dSetO, dDrop, dCall, callQ, dCallKw, dCons, dNil, dBor, dsQ, dTup, dLst, dV, dC, slot, dOp, dUn, dCmp, dCmpT, dChain, dChainT, dTru, dAnd, dOr, dNot, dAndV, dOrV, dNotV, dIf, dIsi, dNoO, dSoO, dSl, bodyQ, endsOf, outsOf, lents, putB, lentQ, dAsg, gNm, gsNil, iSeq, iRng, DL.iRng2, iEnm, dLm, dLm0, dPut, dMm, dYes, hQ, isSub, hideE, pick_0, pick_10, pick_210, rep2, kg, dFor, dLc, wipeD, restD, dPar, ixN3_0, ixN3_1, ixN3_2, ex_some, dRaise_1, dHeard_e, List.set_cons_zero, List.set_cons_succ, rdQ_fz, rdQ_own, rdQ_at, rdS_fz, rdS_own, rdS_bor, frzQ_fz, frzQ_own, frzQ_at, frS_fz, frS_own, nmQ_s, nmS_fz, nmS_own, nmS_bor, retQ_fz, retQ_own, retQ_at, rtS_fz, rtS_own, argsOf_at, argsOf_d, argsOf_n, lnS_own, lnS_bor, lnS_fz, reS_o, reS_b, setF_d, setO_own, setO_fz, setO_at, notBor_fz, notBor_own, notBor_no, isOwn_own, isOwn_bor, addD_ii, addD_ss, addD_ll, addD_tt, subD_ii, mulD_ii, mulD_li, mulD_ti, fdivD_ii, modD_ii, powD_ii, negD_i, ltD_ii, leD_ii, gtD_ii, geD_ii, isQ_n, isQ_b, nisQ_n, isN_non, isN_bl, isN_int, isN_str, isN_tup, isN_lst, isN_rol, isN_dct, isT_int_non, isT_int_bl, isT_int_int, isT_int_str, isT_int_tup, isT_int_lst, isT_int_rol, isT_int_dct, isT_bool_non, isT_bool_bl, isT_bool_int, isT_bool_str, isT_bool_tup, isT_bool_lst, isT_bool_rol, isT_bool_dct, isT_str_non, isT_str_bl, isT_str_int, isT_str_str, isT_str_tup, isT_str_lst, isT_str_rol, isT_str_dct, isT_tuple_non, isT_tuple_bl, isT_tuple_int, isT_tuple_str, isT_tuple_tup, isT_tuple_lst, isT_tuple_rol, isT_tuple_dct, isT_list_non, isT_list_bl, isT_list_int, isT_list_str, isT_list_tup, isT_list_lst, isT_list_rol, isT_list_dct, isT_dict_non, isT_dict_bl, isT_dict_int, isT_dict_str, isT_dict_tup, isT_dict_lst, isT_dict_rol, isT_dict_dct, truQ_non, truQ_bl, truQ_int, truQ_tup, truQ_lst, blQ_bl, lenD_tup, lenD_lst, lenD_rol, lenD_str, tupD_tup, tupD_lst, lstD_tup, lstD_lst, lstD_rol, intD_i, intD_b, boolD_i, boolD_b, ixD_tup, ixD_lst, ixD_rol, slD_lst, slD_tup, intQ_i, appD_1, extD_1, lsQ_own, lsQ_bor, gTp_t, gsCons_c, seqQ_t, seqQ_l, seqQ_r, hideS_fz, hideS_own, hideS_bor, hideS_no, mmQ_ii, atI_0, atI_1, atI_2, List.map_cons, List.map_nil, List.replicate, List.cons_append, List.nil_append, List.append_nil, List.set, List.length_cons, List.length_nil, decide_eq_true_eq, if_true, if_false, Bool.not_true, Bool.not_false, Bool.false_eq_true, and_true, true_and, List.nodup_cons, List.not_mem_nil, not_false_eq_true, List.nodup_nil, List.mem_cons, or_false, List.getD])
    refine ⟨(by simp [lents, slot, Sl.isOwn]), w_owed ?_⟩
    (try simp only [dSeq, dIfS, dRet, dRetN, dNext, dSet, dSetO, dDrop, dCall, callQ, dCallKw, dCons, dNil, dBor, dsQ, dTup, dLst, dV, dC, slot, dOp, dUn, dCmp, dCmpT, dChain, dChainT, dTru, dAnd, dOr, dNot, dAndV, dOrV, dNotV, dIf, dIsi, dNoO, dSoO, dSl, bodyQ, endsOf, outsOf, lents, putB, lentQ, dAsg, gNm, gsNil, iSeq, iRng, DL.iRng2, iEnm, dLm, dLm0, dPut, dMm, dYes, hQ, isSub, hideE, pick_0, pick_10, pick_210, rep2, kg, dFor, dLc, wipeD, restD, dPar, ixN3_0, ixN3_1, ixN3_2, ex_some, dRaise_1, dHeard_e, List.set_cons_zero, List.set_cons_succ, rdQ_fz, rdQ_own, rdQ_at, rdS_fz, rdS_own, rdS_bor, frzQ_fz, frzQ_own, frzQ_at, frS_fz, frS_own, nmQ_s, nmS_fz, nmS_own, nmS_bor, retQ_fz, retQ_own, retQ_at, rtS_fz, rtS_own, argsOf_at, argsOf_d, argsOf_n, lnS_own, lnS_bor, lnS_fz, reS_o, reS_b, setF_d, setO_own, setO_fz, setO_at, notBor_fz, notBor_own, notBor_no, isOwn_own, isOwn_bor, addD_ii, addD_ss, addD_ll, addD_tt, subD_ii, mulD_ii, mulD_li, mulD_ti, fdivD_ii, modD_ii, powD_ii, negD_i, ltD_ii, leD_ii, gtD_ii, geD_ii, isQ_n, isQ_b, nisQ_n, isN_non, isN_bl, isN_int, isN_str, isN_tup, isN_lst, isN_rol, isN_dct, isT_int_non, isT_int_bl, isT_int_int, isT_int_str, isT_int_tup, isT_int_lst, isT_int_rol, isT_int_dct, isT_bool_non, isT_bool_bl, isT_bool_int, isT_bool_str, isT_bool_tup, isT_bool_lst, isT_bool_rol, isT_bool_dct, isT_str_non, isT_str_bl, isT_str_int, isT_str_str, isT_str_tup, isT_str_lst, isT_str_rol, isT_str_dct, isT_tuple_non, isT_tuple_bl, isT_tuple_int, isT_tuple_str, isT_tuple_tup, isT_tuple_lst, isT_tuple_rol, isT_tuple_dct, isT_list_non, isT_list_bl, isT_list_int, isT_list_str, isT_list_tup, isT_list_lst, isT_list_rol, isT_list_dct, isT_dict_non, isT_dict_bl, isT_dict_int, isT_dict_str, isT_dict_tup, isT_dict_lst, isT_dict_rol, isT_dict_dct, truQ_non, truQ_bl, truQ_int, truQ_tup, truQ_lst, blQ_bl, lenD_tup, lenD_lst, lenD_rol, lenD_str, tupD_tup, tupD_lst, lstD_tup, lstD_lst, lstD_rol, intD_i, intD_b, boolD_i, boolD_b, ixD_tup, ixD_lst, ixD_rol, slD_lst, slD_tup, intQ_i, appD_1, extD_1, lsQ_own, lsQ_bor, gTp_t, gsCons_c, seqQ_t, seqQ_l, seqQ_r, hideS_fz, hideS_own, hideS_bor, hideS_no, mmQ_ii, atI_0, atI_1, atI_2, List.map_cons, List.map_nil, List.replicate, List.cons_append, List.nil_append, List.append_nil, List.set, List.length_cons, List.length_nil, decide_eq_true_eq, if_true, if_false, Bool.not_true, Bool.not_false, Bool.false_eq_true, and_true, true_and, List.nodup_cons, List.not_mem_nil, not_false_eq_true, List.nodup_nil, List.mem_cons, or_false, List.getD])
    rw [owed_p ss d c]
    refine ⟨(by simp [lents, slot, Sl.isOwn]), w_same 59 _ _ _ ((Y3 (YtP hY) (YtP hY) Ybl).le (by decide)) ?_⟩
    (try simp only [dSeq, dIfS, dRet, dRetN, dNext, dSet, dSetO, dDrop, dCall, callQ, dCallKw, dCons, dNil, dBor, dsQ, dTup, dLst, dV, dC, slot, dOp, dUn, dCmp, dCmpT, dChain, dChainT, dTru, dAnd, dOr, dNot, dAndV, dOrV, dNotV, dIf, dIsi, dNoO, dSoO, dSl, bodyQ, endsOf, outsOf, lents, putB, lentQ, dAsg, gNm, gsNil, iSeq, iRng, DL.iRng2, iEnm, dLm, dLm0, dPut, dMm, dYes, hQ, isSub, hideE, pick_0, pick_10, pick_210, rep2, kg, dFor, dLc, wipeD, restD, dPar, ixN3_0, ixN3_1, ixN3_2, ex_some, dRaise_1, dHeard_e, List.set_cons_zero, List.set_cons_succ, rdQ_fz, rdQ_own, rdQ_at, rdS_fz, rdS_own, rdS_bor, frzQ_fz, frzQ_own, frzQ_at, frS_fz, frS_own, nmQ_s, nmS_fz, nmS_own, nmS_bor, retQ_fz, retQ_own, retQ_at, rtS_fz, rtS_own, argsOf_at, argsOf_d, argsOf_n, lnS_own, lnS_bor, lnS_fz, reS_o, reS_b, setF_d, setO_own, setO_fz, setO_at, notBor_fz, notBor_own, notBor_no, isOwn_own, isOwn_bor, addD_ii, addD_ss, addD_ll, addD_tt, subD_ii, mulD_ii, mulD_li, mulD_ti, fdivD_ii, modD_ii, powD_ii, negD_i, ltD_ii, leD_ii, gtD_ii, geD_ii, isQ_n, isQ_b, nisQ_n, isN_non, isN_bl, isN_int, isN_str, isN_tup, isN_lst, isN_rol, isN_dct, isT_int_non, isT_int_bl, isT_int_int, isT_int_str, isT_int_tup, isT_int_lst, isT_int_rol, isT_int_dct, isT_bool_non, isT_bool_bl, isT_bool_int, isT_bool_str, isT_bool_tup, isT_bool_lst, isT_bool_rol, isT_bool_dct, isT_str_non, isT_str_bl, isT_str_int, isT_str_str, isT_str_tup, isT_str_lst, isT_str_rol, isT_str_dct, isT_tuple_non, isT_tuple_bl, isT_tuple_int, isT_tuple_str, isT_tuple_tup, isT_tuple_lst, isT_tuple_rol, isT_tuple_dct, isT_list_non, isT_list_bl, isT_list_int, isT_list_str, isT_list_tup, isT_list_lst, isT_list_rol, isT_list_dct, isT_dict_non, isT_dict_bl, isT_dict_int, isT_dict_str, isT_dict_tup, isT_dict_lst, isT_dict_rol, isT_dict_dct, truQ_non, truQ_bl, truQ_int, truQ_tup, truQ_lst, blQ_bl, lenD_tup, lenD_lst, lenD_rol, lenD_str, tupD_tup, tupD_lst, lstD_tup, lstD_lst, lstD_rol, intD_i, intD_b, boolD_i, boolD_b, ixD_tup, ixD_lst, ixD_rol, slD_lst, slD_tup, intQ_i, appD_1, extD_1, lsQ_own, lsQ_bor, gTp_t, gsCons_c, seqQ_t, seqQ_l, seqQ_r, hideS_fz, hideS_own, hideS_bor, hideS_no, mmQ_ii, atI_0, atI_1, atI_2, List.map_cons, List.map_nil, List.replicate, List.cons_append, List.nil_append, List.append_nil, List.set, List.length_cons, List.length_nil, decide_eq_true_eq, if_true, if_false, Bool.not_true, Bool.not_false, Bool.false_eq_true, and_true, true_and, List.nodup_cons, List.not_mem_nil, not_false_eq_true, List.nodup_nil, List.mem_cons, or_false, List.getD])
    all_goals exact h0
  · have c' : isN (wsD s) = false := by simpa using c
    have e : isN (dueS s) = false := by unfold dueS; rw [if_neg c]; rfl
    (try simp only [dSeq, dIfS, dRet, dRetN, dNext, dSet, dSetO, dDrop, dCall, callQ, dCallKw, dCons, dNil, dBor, dsQ, dTup, dLst, dV, dC, slot, dOp, dUn, dCmp, dCmpT, dChain, dChainT, dTru, dAnd, dOr, dNot, dAndV, dOrV, dNotV, dIf, dIsi, dNoO, dSoO, dSl, bodyQ, endsOf, outsOf, lents, putB, lentQ, dAsg, gNm, gsNil, iSeq, iRng, DL.iRng2, iEnm, dLm, dLm0, dPut, dMm, dYes, hQ, isSub, hideE, pick_0, pick_10, pick_210, rep2, kg, dFor, dLc, wipeD, restD, dPar, ixN3_0, ixN3_1, ixN3_2, ex_some, dRaise_1, dHeard_e, List.set_cons_zero, List.set_cons_succ, rdQ_fz, rdQ_own, rdQ_at, rdS_fz, rdS_own, rdS_bor, frzQ_fz, frzQ_own, frzQ_at, frS_fz, frS_own, nmQ_s, nmS_fz, nmS_own, nmS_bor, retQ_fz, retQ_own, retQ_at, rtS_fz, rtS_own, argsOf_at, argsOf_d, argsOf_n, lnS_own, lnS_bor, lnS_fz, reS_o, reS_b, setF_d, setO_own, setO_fz, setO_at, notBor_fz, notBor_own, notBor_no, isOwn_own, isOwn_bor, addD_ii, addD_ss, addD_ll, addD_tt, subD_ii, mulD_ii, mulD_li, mulD_ti, fdivD_ii, modD_ii, powD_ii, negD_i, ltD_ii, leD_ii, gtD_ii, geD_ii, isQ_n, isQ_b, nisQ_n, isN_non, isN_bl, isN_int, isN_str, isN_tup, isN_lst, isN_rol, isN_dct, isT_int_non, isT_int_bl, isT_int_int, isT_int_str, isT_int_tup, isT_int_lst, isT_int_rol, isT_int_dct, isT_bool_non, isT_bool_bl, isT_bool_int, isT_bool_str, isT_bool_tup, isT_bool_lst, isT_bool_rol, isT_bool_dct, isT_str_non, isT_str_bl, isT_str_int, isT_str_str, isT_str_tup, isT_str_lst, isT_str_rol, isT_str_dct, isT_tuple_non, isT_tuple_bl, isT_tuple_int, isT_tuple_str, isT_tuple_tup, isT_tuple_lst, isT_tuple_rol, isT_tuple_dct, isT_list_non, isT_list_bl, isT_list_int, isT_list_str, isT_list_tup, isT_list_lst, isT_list_rol, isT_list_dct, isT_dict_non, isT_dict_bl, isT_dict_int, isT_dict_str, isT_dict_tup, isT_dict_lst, isT_dict_rol, isT_dict_dct, truQ_non, truQ_bl, truQ_int, truQ_tup, truQ_lst, blQ_bl, lenD_tup, lenD_lst, lenD_rol, lenD_str, tupD_tup, tupD_lst, lstD_tup, lstD_lst, lstD_rol, intD_i, intD_b, boolD_i, boolD_b, ixD_tup, ixD_lst, ixD_rol, slD_lst, slD_tup, intQ_i, appD_1, extD_1, lsQ_own, lsQ_bor, gTp_t, gsCons_c, seqQ_t, seqQ_l, seqQ_r, hideS_fz, hideS_own, hideS_bor, hideS_no, mmQ_ii, atI_0, atI_1, atI_2, List.map_cons, List.map_nil, List.replicate, List.cons_append, List.nil_append, List.append_nil, List.set, List.length_cons, List.length_nil, decide_eq_true_eq, if_true, if_false, Bool.not_true, Bool.not_false, Bool.false_eq_true, and_true, true_and, List.nodup_cons, List.not_mem_nil, not_false_eq_true, List.nodup_nil, List.mem_cons, or_false, List.getD, e])
    refine ⟨(by simp [lents, slot, Sl.isOwn]), w_page_told ?_⟩
    (try simp only [dSeq, dIfS, dRet, dRetN, dNext, dSet, dSetO, dDrop, dCall, callQ, dCallKw, dCons, dNil, dBor, dsQ, dTup, dLst, dV, dC, slot, dOp, dUn, dCmp, dCmpT, dChain, dChainT, dTru, dAnd, dOr, dNot, dAndV, dOrV, dNotV, dIf, dIsi, dNoO, dSoO, dSl, bodyQ, endsOf, outsOf, lents, putB, lentQ, dAsg, gNm, gsNil, iSeq, iRng, DL.iRng2, iEnm, dLm, dLm0, dPut, dMm, dYes, hQ, isSub, hideE, pick_0, pick_10, pick_210, rep2, kg, dFor, dLc, wipeD, restD, dPar, ixN3_0, ixN3_1, ixN3_2, ex_some, dRaise_1, dHeard_e, List.set_cons_zero, List.set_cons_succ, rdQ_fz, rdQ_own, rdQ_at, rdS_fz, rdS_own, rdS_bor, frzQ_fz, frzQ_own, frzQ_at, frS_fz, frS_own, nmQ_s, nmS_fz, nmS_own, nmS_bor, retQ_fz, retQ_own, retQ_at, rtS_fz, rtS_own, argsOf_at, argsOf_d, argsOf_n, lnS_own, lnS_bor, lnS_fz, reS_o, reS_b, setF_d, setO_own, setO_fz, setO_at, notBor_fz, notBor_own, notBor_no, isOwn_own, isOwn_bor, addD_ii, addD_ss, addD_ll, addD_tt, subD_ii, mulD_ii, mulD_li, mulD_ti, fdivD_ii, modD_ii, powD_ii, negD_i, ltD_ii, leD_ii, gtD_ii, geD_ii, isQ_n, isQ_b, nisQ_n, isN_non, isN_bl, isN_int, isN_str, isN_tup, isN_lst, isN_rol, isN_dct, isT_int_non, isT_int_bl, isT_int_int, isT_int_str, isT_int_tup, isT_int_lst, isT_int_rol, isT_int_dct, isT_bool_non, isT_bool_bl, isT_bool_int, isT_bool_str, isT_bool_tup, isT_bool_lst, isT_bool_rol, isT_bool_dct, isT_str_non, isT_str_bl, isT_str_int, isT_str_str, isT_str_tup, isT_str_lst, isT_str_rol, isT_str_dct, isT_tuple_non, isT_tuple_bl, isT_tuple_int, isT_tuple_str, isT_tuple_tup, isT_tuple_lst, isT_tuple_rol, isT_tuple_dct, isT_list_non, isT_list_bl, isT_list_int, isT_list_str, isT_list_tup, isT_list_lst, isT_list_rol, isT_list_dct, isT_dict_non, isT_dict_bl, isT_dict_int, isT_dict_str, isT_dict_tup, isT_dict_lst, isT_dict_rol, isT_dict_dct, truQ_non, truQ_bl, truQ_int, truQ_tup, truQ_lst, blQ_bl, lenD_tup, lenD_lst, lenD_rol, lenD_str, tupD_tup, tupD_lst, lstD_tup, lstD_lst, lstD_rol, intD_i, intD_b, boolD_i, boolD_b, ixD_tup, ixD_lst, ixD_rol, slD_lst, slD_tup, intQ_i, appD_1, extD_1, lsQ_own, lsQ_bor, gTp_t, gsCons_c, seqQ_t, seqQ_l, seqQ_r, hideS_fz, hideS_own, hideS_bor, hideS_no, mmQ_ii, atI_0, atI_1, atI_2, List.map_cons, List.map_nil, List.replicate, List.cons_append, List.nil_append, List.append_nil, List.set, List.length_cons, List.length_nil, decide_eq_true_eq, if_true, if_false, Bool.not_true, Bool.not_false, Bool.false_eq_true, and_true, true_and, List.nodup_cons, List.not_mem_nil, not_false_eq_true, List.nodup_nil, List.mem_cons, or_false, List.getD])
    refine ⟨(by simp [lents, slot, Sl.isOwn]), w_owed ?_⟩
    (try simp only [dSeq, dIfS, dRet, dRetN, dNext, dSet, dSetO, dDrop, dCall, callQ, dCallKw, dCons, dNil, dBor, dsQ, dTup, dLst, dV, dC, slot, dOp, dUn, dCmp, dCmpT, dChain, dChainT, dTru, dAnd, dOr, dNot, dAndV, dOrV, dNotV, dIf, dIsi, dNoO, dSoO, dSl, bodyQ, endsOf, outsOf, lents, putB, lentQ, dAsg, gNm, gsNil, iSeq, iRng, DL.iRng2, iEnm, dLm, dLm0, dPut, dMm, dYes, hQ, isSub, hideE, pick_0, pick_10, pick_210, rep2, kg, dFor, dLc, wipeD, restD, dPar, ixN3_0, ixN3_1, ixN3_2, ex_some, dRaise_1, dHeard_e, List.set_cons_zero, List.set_cons_succ, rdQ_fz, rdQ_own, rdQ_at, rdS_fz, rdS_own, rdS_bor, frzQ_fz, frzQ_own, frzQ_at, frS_fz, frS_own, nmQ_s, nmS_fz, nmS_own, nmS_bor, retQ_fz, retQ_own, retQ_at, rtS_fz, rtS_own, argsOf_at, argsOf_d, argsOf_n, lnS_own, lnS_bor, lnS_fz, reS_o, reS_b, setF_d, setO_own, setO_fz, setO_at, notBor_fz, notBor_own, notBor_no, isOwn_own, isOwn_bor, addD_ii, addD_ss, addD_ll, addD_tt, subD_ii, mulD_ii, mulD_li, mulD_ti, fdivD_ii, modD_ii, powD_ii, negD_i, ltD_ii, leD_ii, gtD_ii, geD_ii, isQ_n, isQ_b, nisQ_n, isN_non, isN_bl, isN_int, isN_str, isN_tup, isN_lst, isN_rol, isN_dct, isT_int_non, isT_int_bl, isT_int_int, isT_int_str, isT_int_tup, isT_int_lst, isT_int_rol, isT_int_dct, isT_bool_non, isT_bool_bl, isT_bool_int, isT_bool_str, isT_bool_tup, isT_bool_lst, isT_bool_rol, isT_bool_dct, isT_str_non, isT_str_bl, isT_str_int, isT_str_str, isT_str_tup, isT_str_lst, isT_str_rol, isT_str_dct, isT_tuple_non, isT_tuple_bl, isT_tuple_int, isT_tuple_str, isT_tuple_tup, isT_tuple_lst, isT_tuple_rol, isT_tuple_dct, isT_list_non, isT_list_bl, isT_list_int, isT_list_str, isT_list_tup, isT_list_lst, isT_list_rol, isT_list_dct, isT_dict_non, isT_dict_bl, isT_dict_int, isT_dict_str, isT_dict_tup, isT_dict_lst, isT_dict_rol, isT_dict_dct, truQ_non, truQ_bl, truQ_int, truQ_tup, truQ_lst, blQ_bl, lenD_tup, lenD_lst, lenD_rol, lenD_str, tupD_tup, tupD_lst, lstD_tup, lstD_lst, lstD_rol, intD_i, intD_b, boolD_i, boolD_b, ixD_tup, ixD_lst, ixD_rol, slD_lst, slD_tup, intQ_i, appD_1, extD_1, lsQ_own, lsQ_bor, gTp_t, gsCons_c, seqQ_t, seqQ_l, seqQ_r, hideS_fz, hideS_own, hideS_bor, hideS_no, mmQ_ii, atI_0, atI_1, atI_2, List.map_cons, List.map_nil, List.replicate, List.cons_append, List.nil_append, List.append_nil, List.set, List.length_cons, List.length_nil, decide_eq_true_eq, if_true, if_false, Bool.not_true, Bool.not_false, Bool.false_eq_true, and_true, true_and, List.nodup_cons, List.not_mem_nil, not_false_eq_true, List.nodup_nil, List.mem_cons, or_false, List.getD])
    rw [owed_q s d c']
    refine ⟨(by simp [lents, slot, Sl.isOwn]), w_same 59 _ _ _ ((Y3 (YtP hY) (YtP hY) Ybl).le (by decide)) ?_⟩
    (try simp only [dSeq, dIfS, dRet, dRetN, dNext, dSet, dSetO, dDrop, dCall, callQ, dCallKw, dCons, dNil, dBor, dsQ, dTup, dLst, dV, dC, slot, dOp, dUn, dCmp, dCmpT, dChain, dChainT, dTru, dAnd, dOr, dNot, dAndV, dOrV, dNotV, dIf, dIsi, dNoO, dSoO, dSl, bodyQ, endsOf, outsOf, lents, putB, lentQ, dAsg, gNm, gsNil, iSeq, iRng, DL.iRng2, iEnm, dLm, dLm0, dPut, dMm, dYes, hQ, isSub, hideE, pick_0, pick_10, pick_210, rep2, kg, dFor, dLc, wipeD, restD, dPar, ixN3_0, ixN3_1, ixN3_2, ex_some, dRaise_1, dHeard_e, List.set_cons_zero, List.set_cons_succ, rdQ_fz, rdQ_own, rdQ_at, rdS_fz, rdS_own, rdS_bor, frzQ_fz, frzQ_own, frzQ_at, frS_fz, frS_own, nmQ_s, nmS_fz, nmS_own, nmS_bor, retQ_fz, retQ_own, retQ_at, rtS_fz, rtS_own, argsOf_at, argsOf_d, argsOf_n, lnS_own, lnS_bor, lnS_fz, reS_o, reS_b, setF_d, setO_own, setO_fz, setO_at, notBor_fz, notBor_own, notBor_no, isOwn_own, isOwn_bor, addD_ii, addD_ss, addD_ll, addD_tt, subD_ii, mulD_ii, mulD_li, mulD_ti, fdivD_ii, modD_ii, powD_ii, negD_i, ltD_ii, leD_ii, gtD_ii, geD_ii, isQ_n, isQ_b, nisQ_n, isN_non, isN_bl, isN_int, isN_str, isN_tup, isN_lst, isN_rol, isN_dct, isT_int_non, isT_int_bl, isT_int_int, isT_int_str, isT_int_tup, isT_int_lst, isT_int_rol, isT_int_dct, isT_bool_non, isT_bool_bl, isT_bool_int, isT_bool_str, isT_bool_tup, isT_bool_lst, isT_bool_rol, isT_bool_dct, isT_str_non, isT_str_bl, isT_str_int, isT_str_str, isT_str_tup, isT_str_lst, isT_str_rol, isT_str_dct, isT_tuple_non, isT_tuple_bl, isT_tuple_int, isT_tuple_str, isT_tuple_tup, isT_tuple_lst, isT_tuple_rol, isT_tuple_dct, isT_list_non, isT_list_bl, isT_list_int, isT_list_str, isT_list_tup, isT_list_lst, isT_list_rol, isT_list_dct, isT_dict_non, isT_dict_bl, isT_dict_int, isT_dict_str, isT_dict_tup, isT_dict_lst, isT_dict_rol, isT_dict_dct, truQ_non, truQ_bl, truQ_int, truQ_tup, truQ_lst, blQ_bl, lenD_tup, lenD_lst, lenD_rol, lenD_str, tupD_tup, tupD_lst, lstD_tup, lstD_lst, lstD_rol, intD_i, intD_b, boolD_i, boolD_b, ixD_tup, ixD_lst, ixD_rol, slD_lst, slD_tup, intQ_i, appD_1, extD_1, lsQ_own, lsQ_bor, gTp_t, gsCons_c, seqQ_t, seqQ_l, seqQ_r, hideS_fz, hideS_own, hideS_bor, hideS_no, mmQ_ii, atI_0, atI_1, atI_2, List.map_cons, List.map_nil, List.replicate, List.cons_append, List.nil_append, List.append_nil, List.set, List.length_cons, List.length_nil, decide_eq_true_eq, if_true, if_false, Bool.not_true, Bool.not_false, Bool.false_eq_true, and_true, true_and, List.nodup_cons, List.not_mem_nil, not_false_eq_true, List.nodup_nil, List.mem_cons, or_false, List.getD])
    all_goals exact h0
end K01

set_option Elab.async false
set_option linter.all false
set_option maxRecDepth 100000
set_option maxHeartbeats 2000000
namespace K01
open PySem PySem.Spec PyProof.Rows L2 LamX NdefX DL
def In6 (ds : List D) : Prop := ∀ d ∈ ds, ∃ x : Int, d = .int x ∧ 1 ≤ x ∧ x ≤ 6
def tIdx : DTE := dOp ixD (dLst (dCons (dLst (dCons (dC (.int 1)) (dCons (dC (.int 2)) (dCons (dC (.int 3)) (dCons (dC (.int 4)) (dCons (dC (.int 5)) (dCons (dC (.int 6)) dNil))))))) (dCons (dLst (dCons (dC (.int 2)) dNil)) (dCons (dLst (dCons (dC (.int 1)) (dCons (dC (.int 2)) (dCons (dC (.int 2)) (dCons (dC (.int 3)) dNil))))) dNil)))) (dV 2)
theorem idx_ok {s0 s1 s3 : Sl} {st : Int} {Q : Rv → En → Prop} (h : 0 ≤ st) (h2 : st < 3) (hQ : ∀ ds, ds ≠ [] → ds.length ≤ 6 → In6 ds → Q (.fz (.lst ds)) [s0, s1, .fz (.int st), s3]) : tIdx [s0, s1, .fz (.int st), s3] Q := by
  have pa : ∀ η, PA (dCons (dLst (dCons (dC (.int 1)) (dCons (dC (.int 2)) (dCons (dC (.int 3)) (dCons (dC (.int 4)) (dCons (dC (.int 5)) (dCons (dC (.int 6)) dNil))))))) (dCons (dLst (dCons (dC (.int 2)) dNil)) (dCons (dLst (dCons (dC (.int 1)) (dCons (dC (.int 2)) (dCons (dC (.int 2)) (dCons (dC (.int 3)) dNil))))) dNil))) η [.lst [.int 1, .int 2, .int 3, .int 4, .int 5, .int 6], .lst [.int 2], .lst [.int 1, .int 2, .int 2, .int 3]] := fun η => (.cons (.lst (.cons .c (.cons .c (.cons .c (.cons .c (.cons .c (.cons .c .nil)))))) (ln3 (by show 6 ≤ 1000; decide))) (.cons (.lst (.cons .c .nil) (ln3 (by show 1 ≤ 1000; decide))) (.cons (.lst (.cons .c (.cons .c (.cons .c (.cons .c .nil)))) (ln3 (by show 4 ≤ 1000; decide))) .nil)))
  have hst : st = 0 ∨ st = 1 ∨ st = 2 := by omega
  unfold tIdx
  rcases hst with rfl | rfl | rfl
  · exact ix_lst (pa _) (ln3 (by show 3 ≤ 1000; decide)) rfl atI_0 (hQ _ (by simp) (by simp) fun d hd => by
      simp only [List.mem_cons, List.not_mem_nil, or_false] at hd
      rcases hd with rfl | rfl | rfl | rfl | rfl | rfl <;> exact ⟨_, rfl, by decide, by decide⟩)
  · exact ix_lst (pa _) (ln3 (by show 3 ≤ 1000; decide)) rfl atI_1 (hQ _ (by simp) (by simp) fun d hd => by
      simp only [List.mem_cons, List.not_mem_nil, or_false] at hd
      rcases hd with rfl <;> exact ⟨_, rfl, by decide, by decide⟩)
  · exact ix_lst (pa _) (ln3 (by show 3 ≤ 1000; decide)) rfl atI_2 (hQ _ (by simp) (by simp) fun d hd => by
      simp only [List.mem_cons, List.not_mem_nil, or_false] at hd
      rcases hd with rfl | rfl | rfl | rfl <;> exact ⟨_, rfl, by decide, by decide⟩)
theorem w_zc_sizes {o : OC} {n : Int} {Q : Rv → List OC → Prop} {ED : Nat → D → Prop} (hJ : J o) (h0 : 0 ≤ n) (h1 : n ≤ 24) (hQ : ∀ ds o', J o' → (ds.length : Int) = n → In6 ds → Q (.fz (.tup ds)) [o']) : sp_zc_sizes [.bor o, .fz (.int n)] Q ED := by
  refine ⟨rfl, ?_⟩
  show (dSeq (dSet 2 (dCall sp_take ED0 (dBor 0 (dCons (dC (.int 3)) dNil)))) (dRet (dUn tupD (dLc (iRng (dV 1)) (gNm 3) dYes (dCall sp_one ED0 (dBor 0 (dCons tIdx dNil))) [3])))) _ _
  (try simp only [dSeq, dIfS, dRet, dRetN, dNext, dSet, dSetO, dDrop, dCall, callQ, dCallKw, dCons, dNil, dBor, dsQ, dTup, dLst, dV, dC, slot, dOp, dUn, dCmp, dCmpT, dChain, dChainT, dTru, dAnd, dOr, dNot, dAndV, dOrV, dNotV, dIf, dIsi, dNoO, dSoO, dSl, bodyQ, endsOf, outsOf, lents, putB, lentQ, dAsg, gNm, gsNil, iSeq, iRng, DL.iRng2, iEnm, dLm, dLm0, dPut, dMm, dYes, hQ, isSub, hideE, pick_0, pick_10, pick_210, rep2, kg, dFor, dLc, wipeD, restD, dPar, ixN3_0, ixN3_1, ixN3_2, ex_some, dRaise_1, dHeard_e, List.set_cons_zero, List.set_cons_succ, rdQ_fz, rdQ_own, rdQ_at, rdS_fz, rdS_own, rdS_bor, frzQ_fz, frzQ_own, frzQ_at, frS_fz, frS_own, nmQ_s, nmS_fz, nmS_own, nmS_bor, retQ_fz, retQ_own, retQ_at, rtS_fz, rtS_own, argsOf_at, argsOf_d, argsOf_n, lnS_own, lnS_bor, lnS_fz, reS_o, reS_b, setF_d, setO_own, setO_fz, setO_at, notBor_fz, notBor_own, notBor_no, isOwn_own, isOwn_bor, addD_ii, addD_ss, addD_ll, addD_tt, subD_ii, mulD_ii, mulD_li, mulD_ti, fdivD_ii, modD_ii, powD_ii, negD_i, ltD_ii, leD_ii, gtD_ii, geD_ii, isQ_n, isQ_b, nisQ_n, isN_non, isN_bl, isN_int, isN_str, isN_tup, isN_lst, isN_rol, isN_dct, isT_int_non, isT_int_bl, isT_int_int, isT_int_str, isT_int_tup, isT_int_lst, isT_int_rol, isT_int_dct, isT_bool_non, isT_bool_bl, isT_bool_int, isT_bool_str, isT_bool_tup, isT_bool_lst, isT_bool_rol, isT_bool_dct, isT_str_non, isT_str_bl, isT_str_int, isT_str_str, isT_str_tup, isT_str_lst, isT_str_rol, isT_str_dct, isT_tuple_non, isT_tuple_bl, isT_tuple_int, isT_tuple_str, isT_tuple_tup, isT_tuple_lst, isT_tuple_rol, isT_tuple_dct, isT_list_non, isT_list_bl, isT_list_int, isT_list_str, isT_list_tup, isT_list_lst, isT_list_rol, isT_list_dct, isT_dict_non, isT_dict_bl, isT_dict_int, isT_dict_str, isT_dict_tup, isT_dict_lst, isT_dict_rol, isT_dict_dct, truQ_non, truQ_bl, truQ_int, truQ_tup, truQ_lst, blQ_bl, lenD_tup, lenD_lst, lenD_rol, lenD_str, tupD_tup, tupD_lst, lstD_tup, lstD_lst, lstD_rol, intD_i, intD_b, boolD_i, boolD_b, ixD_tup, ixD_lst, ixD_rol, slD_lst, slD_tup, intQ_i, appD_1, extD_1, lsQ_own, lsQ_bor, gTp_t, gsCons_c, seqQ_t, seqQ_l, seqQ_r, hideS_fz, hideS_own, hideS_bor, hideS_no, mmQ_ii, atI_0, atI_1, atI_2, List.map_cons, List.map_nil, List.replicate, List.cons_append, List.nil_append, List.append_nil, List.set, List.length_cons, List.length_nil, decide_eq_true_eq, if_true, if_false, Bool.not_true, Bool.not_false, Bool.false_eq_true, and_true, true_and, List.nodup_cons, List.not_mem_nil, not_false_eq_true, List.nodup_nil, List.mem_cons, or_false, List.getD])
  refine ⟨(by simp [lents, slot, Sl.isOwn]), w_take hJ (by decide) (by decide) fun st o1 hJ1 s0 s1 => ?_⟩
  (try simp only [dSeq, dIfS, dRet, dRetN, dNext, dSet, dSetO, dDrop, dCall, callQ, dCallKw, dCons, dNil, dBor, dsQ, dTup, dLst, dV, dC, slot, dOp, dUn, dCmp, dCmpT, dChain, dChainT, dTru, dAnd, dOr, dNot, dAndV, dOrV, dNotV, dIf, dIsi, dNoO, dSoO, dSl, bodyQ, endsOf, outsOf, lents, putB, lentQ, dAsg, gNm, gsNil, iSeq, iRng, DL.iRng2, iEnm, dLm, dLm0, dPut, dMm, dYes, hQ, isSub, hideE, pick_0, pick_10, pick_210, rep2, kg, dFor, dLc, wipeD, restD, dPar, ixN3_0, ixN3_1, ixN3_2, ex_some, dRaise_1, dHeard_e, List.set_cons_zero, List.set_cons_succ, rdQ_fz, rdQ_own, rdQ_at, rdS_fz, rdS_own, rdS_bor, frzQ_fz, frzQ_own, frzQ_at, frS_fz, frS_own, nmQ_s, nmS_fz, nmS_own, nmS_bor, retQ_fz, retQ_own, retQ_at, rtS_fz, rtS_own, argsOf_at, argsOf_d, argsOf_n, lnS_own, lnS_bor, lnS_fz, reS_o, reS_b, setF_d, setO_own, setO_fz, setO_at, notBor_fz, notBor_own, notBor_no, isOwn_own, isOwn_bor, addD_ii, addD_ss, addD_ll, addD_tt, subD_ii, mulD_ii, mulD_li, mulD_ti, fdivD_ii, modD_ii, powD_ii, negD_i, ltD_ii, leD_ii, gtD_ii, geD_ii, isQ_n, isQ_b, nisQ_n, isN_non, isN_bl, isN_int, isN_str, isN_tup, isN_lst, isN_rol, isN_dct, isT_int_non, isT_int_bl, isT_int_int, isT_int_str, isT_int_tup, isT_int_lst, isT_int_rol, isT_int_dct, isT_bool_non, isT_bool_bl, isT_bool_int, isT_bool_str, isT_bool_tup, isT_bool_lst, isT_bool_rol, isT_bool_dct, isT_str_non, isT_str_bl, isT_str_int, isT_str_str, isT_str_tup, isT_str_lst, isT_str_rol, isT_str_dct, isT_tuple_non, isT_tuple_bl, isT_tuple_int, isT_tuple_str, isT_tuple_tup, isT_tuple_lst, isT_tuple_rol, isT_tuple_dct, isT_list_non, isT_list_bl, isT_list_int, isT_list_str, isT_list_tup, isT_list_lst, isT_list_rol, isT_list_dct, isT_dict_non, isT_dict_bl, isT_dict_int, isT_dict_str, isT_dict_tup, isT_dict_lst, isT_dict_rol, isT_dict_dct, truQ_non, truQ_bl, truQ_int, truQ_tup, truQ_lst, blQ_bl, lenD_tup, lenD_lst, lenD_rol, lenD_str, tupD_tup, tupD_lst, lstD_tup, lstD_lst, lstD_rol, intD_i, intD_b, boolD_i, boolD_b, ixD_tup, ixD_lst, ixD_rol, slD_lst, slD_tup, intQ_i, appD_1, extD_1, lsQ_own, lsQ_bor, gTp_t, gsCons_c, seqQ_t, seqQ_l, seqQ_r, hideS_fz, hideS_own, hideS_bor, hideS_no, mmQ_ii, atI_0, atI_1, atI_2, List.map_cons, List.map_nil, List.replicate, List.cons_append, List.nil_append, List.append_nil, List.set, List.length_cons, List.length_nil, decide_eq_true_eq, if_true, if_false, Bool.not_true, Bool.not_false, Bool.false_eq_true, and_true, true_and, List.nodup_cons, List.not_mem_nil, not_false_eq_true, List.nodup_nil, List.mem_cons, or_false, List.getD])
  refine ⟨⟨by omega, by omega⟩, by simp [wipeOk, slot, notBor], ?_⟩
  rw [rngD_0]
  refine lcL_ind (Inv := fun rest acc η => ∃ i k o', rest = rngs i k ∧ i + k = n.toNat ∧ J o' ∧ η = [.bor o', .fz (.int n), .fz (.int st), .no] ∧ acc.length = i ∧ In6 acc) ?_ ?_ _ _ _ ⟨0, n.toNat, o1, rfl, by omega, hJ1, by (try simp only [dSeq, dIfS, dRet, dRetN, dNext, dSet, dSetO, dDrop, dCall, callQ, dCallKw, dCons, dNil, dBor, dsQ, dTup, dLst, dV, dC, slot, dOp, dUn, dCmp, dCmpT, dChain, dChainT, dTru, dAnd, dOr, dNot, dAndV, dOrV, dNotV, dIf, dIsi, dNoO, dSoO, dSl, bodyQ, endsOf, outsOf, lents, putB, lentQ, dAsg, gNm, gsNil, iSeq, iRng, DL.iRng2, iEnm, dLm, dLm0, dPut, dMm, dYes, hQ, isSub, hideE, pick_0, pick_10, pick_210, rep2, kg, dFor, dLc, wipeD, restD, dPar, ixN3_0, ixN3_1, ixN3_2, ex_some, dRaise_1, dHeard_e, List.set_cons_zero, List.set_cons_succ, rdQ_fz, rdQ_own, rdQ_at, rdS_fz, rdS_own, rdS_bor, frzQ_fz, frzQ_own, frzQ_at, frS_fz, frS_own, nmQ_s, nmS_fz, nmS_own, nmS_bor, retQ_fz, retQ_own, retQ_at, rtS_fz, rtS_own, argsOf_at, argsOf_d, argsOf_n, lnS_own, lnS_bor, lnS_fz, reS_o, reS_b, setF_d, setO_own, setO_fz, setO_at, notBor_fz, notBor_own, notBor_no, isOwn_own, isOwn_bor, addD_ii, addD_ss, addD_ll, addD_tt, subD_ii, mulD_ii, mulD_li, mulD_ti, fdivD_ii, modD_ii, powD_ii, negD_i, ltD_ii, leD_ii, gtD_ii, geD_ii, isQ_n, isQ_b, nisQ_n, isN_non, isN_bl, isN_int, isN_str, isN_tup, isN_lst, isN_rol, isN_dct, isT_int_non, isT_int_bl, isT_int_int, isT_int_str, isT_int_tup, isT_int_lst, isT_int_rol, isT_int_dct, isT_bool_non, isT_bool_bl, isT_bool_int, isT_bool_str, isT_bool_tup, isT_bool_lst, isT_bool_rol, isT_bool_dct, isT_str_non, isT_str_bl, isT_str_int, isT_str_str, isT_str_tup, isT_str_lst, isT_str_rol, isT_str_dct, isT_tuple_non, isT_tuple_bl, isT_tuple_int, isT_tuple_str, isT_tuple_tup, isT_tuple_lst, isT_tuple_rol, isT_tuple_dct, isT_list_non, isT_list_bl, isT_list_int, isT_list_str, isT_list_tup, isT_list_lst, isT_list_rol, isT_list_dct, isT_dict_non, isT_dict_bl, isT_dict_int, isT_dict_str, isT_dict_tup, isT_dict_lst, isT_dict_rol, isT_dict_dct, truQ_non, truQ_bl, truQ_int, truQ_tup, truQ_lst, blQ_bl, lenD_tup, lenD_lst, lenD_rol, lenD_str, tupD_tup, tupD_lst, lstD_tup, lstD_lst, lstD_rol, intD_i, intD_b, boolD_i, boolD_b, ixD_tup, ixD_lst, ixD_rol, slD_lst, slD_tup, intQ_i, appD_1, extD_1, lsQ_own, lsQ_bor, gTp_t, gsCons_c, seqQ_t, seqQ_l, seqQ_r, hideS_fz, hideS_own, hideS_bor, hideS_no, mmQ_ii, atI_0, atI_1, atI_2, List.map_cons, List.map_nil, List.replicate, List.cons_append, List.nil_append, List.append_nil, List.set, List.length_cons, List.length_nil, decide_eq_true_eq, if_true, if_false, Bool.not_true, Bool.not_false, Bool.false_eq_true, and_true, true_and, List.nodup_cons, List.not_mem_nil, not_false_eq_true, List.nodup_nil, List.mem_cons, or_false, List.getD]), rfl, fun d hd => by cases hd⟩
  · rintro acc η ⟨i, k, o', r1, r2, hJ', rfl, r3, r4⟩
    cases k with
    | succ k => cases r1
    | zero =>
      (try simp only [dSeq, dIfS, dRet, dRetN, dNext, dSet, dSetO, dDrop, dCall, callQ, dCallKw, dCons, dNil, dBor, dsQ, dTup, dLst, dV, dC, slot, dOp, dUn, dCmp, dCmpT, dChain, dChainT, dTru, dAnd, dOr, dNot, dAndV, dOrV, dNotV, dIf, dIsi, dNoO, dSoO, dSl, bodyQ, endsOf, outsOf, lents, putB, lentQ, dAsg, gNm, gsNil, iSeq, iRng, DL.iRng2, iEnm, dLm, dLm0, dPut, dMm, dYes, hQ, isSub, hideE, pick_0, pick_10, pick_210, rep2, kg, dFor, dLc, wipeD, restD, dPar, ixN3_0, ixN3_1, ixN3_2, ex_some, dRaise_1, dHeard_e, List.set_cons_zero, List.set_cons_succ, rdQ_fz, rdQ_own, rdQ_at, rdS_fz, rdS_own, rdS_bor, frzQ_fz, frzQ_own, frzQ_at, frS_fz, frS_own, nmQ_s, nmS_fz, nmS_own, nmS_bor, retQ_fz, retQ_own, retQ_at, rtS_fz, rtS_own, argsOf_at, argsOf_d, argsOf_n, lnS_own, lnS_bor, lnS_fz, reS_o, reS_b, setF_d, setO_own, setO_fz, setO_at, notBor_fz, notBor_own, notBor_no, isOwn_own, isOwn_bor, addD_ii, addD_ss, addD_ll, addD_tt, subD_ii, mulD_ii, mulD_li, mulD_ti, fdivD_ii, modD_ii, powD_ii, negD_i, ltD_ii, leD_ii, gtD_ii, geD_ii, isQ_n, isQ_b, nisQ_n, isN_non, isN_bl, isN_int, isN_str, isN_tup, isN_lst, isN_rol, isN_dct, isT_int_non, isT_int_bl, isT_int_int, isT_int_str, isT_int_tup, isT_int_lst, isT_int_rol, isT_int_dct, isT_bool_non, isT_bool_bl, isT_bool_int, isT_bool_str, isT_bool_tup, isT_bool_lst, isT_bool_rol, isT_bool_dct, isT_str_non, isT_str_bl, isT_str_int, isT_str_str, isT_str_tup, isT_str_lst, isT_str_rol, isT_str_dct, isT_tuple_non, isT_tuple_bl, isT_tuple_int, isT_tuple_str, isT_tuple_tup, isT_tuple_lst, isT_tuple_rol, isT_tuple_dct, isT_list_non, isT_list_bl, isT_list_int, isT_list_str, isT_list_tup, isT_list_lst, isT_list_rol, isT_list_dct, isT_dict_non, isT_dict_bl, isT_dict_int, isT_dict_str, isT_dict_tup, isT_dict_lst, isT_dict_rol, isT_dict_dct, truQ_non, truQ_bl, truQ_int, truQ_tup, truQ_lst, blQ_bl, lenD_tup, lenD_lst, lenD_rol, lenD_str, tupD_tup, tupD_lst, lstD_tup, lstD_lst, lstD_rol, intD_i, intD_b, boolD_i, boolD_b, ixD_tup, ixD_lst, ixD_rol, slD_lst, slD_tup, intQ_i, appD_1, extD_1, lsQ_own, lsQ_bor, gTp_t, gsCons_c, seqQ_t, seqQ_l, seqQ_r, hideS_fz, hideS_own, hideS_bor, hideS_no, mmQ_ii, atI_0, atI_1, atI_2, List.map_cons, List.map_nil, List.replicate, List.cons_append, List.nil_append, List.append_nil, List.set, List.length_cons, List.length_nil, decide_eq_true_eq, if_true, if_false, Bool.not_true, Bool.not_false, Bool.false_eq_true, and_true, true_and, List.nodup_cons, List.not_mem_nil, not_false_eq_true, List.nodup_nil, List.mem_cons, or_false, List.getD])
      exact hQ _ _ hJ' (by omega) r4
  · rintro d rest acc η K ⟨i, k, o', r1, r2, hJ', rfl, r3, r4⟩ hK
    cases k with
    | zero => cases r1
    | succ k =>
      obtain ⟨rfl, rfl⟩ := List.cons.inj r1
      have fin : ∀ e o2, J o2 → (∃ x : Int, e = .int x ∧ 1 ≤ x ∧ x ≤ 6) → acc.length < sizeLine ∧ wipeOk [.bor o2, .fz (.int n), .fz (.int st), .fz (.int (i : Nat))] [3] ∧ K (acc ++ [e]) [.bor o2, .fz (.int n), .fz (.int st), .no] := fun e o2 h2 he =>
        ⟨by rw [sizeLine_eq]; omega, by simp [wipeOk, slot, notBor], hK _ _ ⟨i + 1, k, o2, rfl, by omega, h2, rfl, by simp [r3], fun d hd => by
          rcases List.mem_append.mp hd with hd | hd
          · exact r4 d hd
          · rw [List.mem_singleton] at hd; rw [hd]; exact he⟩⟩
      (try simp only [dSeq, dIfS, dRet, dRetN, dNext, dSet, dSetO, dDrop, dCall, callQ, dCallKw, dCons, dNil, dBor, dsQ, dTup, dLst, dV, dC, slot, dOp, dUn, dCmp, dCmpT, dChain, dChainT, dTru, dAnd, dOr, dNot, dAndV, dOrV, dNotV, dIf, dIsi, dNoO, dSoO, dSl, bodyQ, endsOf, outsOf, lents, putB, lentQ, dAsg, gNm, gsNil, iSeq, iRng, DL.iRng2, iEnm, dLm, dLm0, dPut, dMm, dYes, hQ, isSub, hideE, pick_0, pick_10, pick_210, rep2, kg, dFor, dLc, wipeD, restD, dPar, ixN3_0, ixN3_1, ixN3_2, ex_some, dRaise_1, dHeard_e, List.set_cons_zero, List.set_cons_succ, rdQ_fz, rdQ_own, rdQ_at, rdS_fz, rdS_own, rdS_bor, frzQ_fz, frzQ_own, frzQ_at, frS_fz, frS_own, nmQ_s, nmS_fz, nmS_own, nmS_bor, retQ_fz, retQ_own, retQ_at, rtS_fz, rtS_own, argsOf_at, argsOf_d, argsOf_n, lnS_own, lnS_bor, lnS_fz, reS_o, reS_b, setF_d, setO_own, setO_fz, setO_at, notBor_fz, notBor_own, notBor_no, isOwn_own, isOwn_bor, addD_ii, addD_ss, addD_ll, addD_tt, subD_ii, mulD_ii, mulD_li, mulD_ti, fdivD_ii, modD_ii, powD_ii, negD_i, ltD_ii, leD_ii, gtD_ii, geD_ii, isQ_n, isQ_b, nisQ_n, isN_non, isN_bl, isN_int, isN_str, isN_tup, isN_lst, isN_rol, isN_dct, isT_int_non, isT_int_bl, isT_int_int, isT_int_str, isT_int_tup, isT_int_lst, isT_int_rol, isT_int_dct, isT_bool_non, isT_bool_bl, isT_bool_int, isT_bool_str, isT_bool_tup, isT_bool_lst, isT_bool_rol, isT_bool_dct, isT_str_non, isT_str_bl, isT_str_int, isT_str_str, isT_str_tup, isT_str_lst, isT_str_rol, isT_str_dct, isT_tuple_non, isT_tuple_bl, isT_tuple_int, isT_tuple_str, isT_tuple_tup, isT_tuple_lst, isT_tuple_rol, isT_tuple_dct, isT_list_non, isT_list_bl, isT_list_int, isT_list_str, isT_list_tup, isT_list_lst, isT_list_rol, isT_list_dct, isT_dict_non, isT_dict_bl, isT_dict_int, isT_dict_str, isT_dict_tup, isT_dict_lst, isT_dict_rol, isT_dict_dct, truQ_non, truQ_bl, truQ_int, truQ_tup, truQ_lst, blQ_bl, lenD_tup, lenD_lst, lenD_rol, lenD_str, tupD_tup, tupD_lst, lstD_tup, lstD_lst, lstD_rol, intD_i, intD_b, boolD_i, boolD_b, ixD_tup, ixD_lst, ixD_rol, slD_lst, slD_tup, intQ_i, appD_1, extD_1, lsQ_own, lsQ_bor, gTp_t, gsCons_c, seqQ_t, seqQ_l, seqQ_r, hideS_fz, hideS_own, hideS_bor, hideS_no, mmQ_ii, atI_0, atI_1, atI_2, List.map_cons, List.map_nil, List.replicate, List.cons_append, List.nil_append, List.append_nil, List.set, List.length_cons, List.length_nil, decide_eq_true_eq, if_true, if_false, Bool.not_true, Bool.not_false, Bool.false_eq_true, and_true, true_and, List.nodup_cons, List.not_mem_nil, not_false_eq_true, List.nodup_nil, List.mem_cons, or_false, List.getD])
      refine idx_ok s0 s1 fun ds d0 d1 d2 => ?_
      (try simp only [dSeq, dIfS, dRet, dRetN, dNext, dSet, dSetO, dDrop, dCall, callQ, dCallKw, dCons, dNil, dBor, dsQ, dTup, dLst, dV, dC, slot, dOp, dUn, dCmp, dCmpT, dChain, dChainT, dTru, dAnd, dOr, dNot, dAndV, dOrV, dNotV, dIf, dIsi, dNoO, dSoO, dSl, bodyQ, endsOf, outsOf, lents, putB, lentQ, dAsg, gNm, gsNil, iSeq, iRng, DL.iRng2, iEnm, dLm, dLm0, dPut, dMm, dYes, hQ, isSub, hideE, pick_0, pick_10, pick_210, rep2, kg, dFor, dLc, wipeD, restD, dPar, ixN3_0, ixN3_1, ixN3_2, ex_some, dRaise_1, dHeard_e, List.set_cons_zero, List.set_cons_succ, rdQ_fz, rdQ_own, rdQ_at, rdS_fz, rdS_own, rdS_bor, frzQ_fz, frzQ_own, frzQ_at, frS_fz, frS_own, nmQ_s, nmS_fz, nmS_own, nmS_bor, retQ_fz, retQ_own, retQ_at, rtS_fz, rtS_own, argsOf_at, argsOf_d, argsOf_n, lnS_own, lnS_bor, lnS_fz, reS_o, reS_b, setF_d, setO_own, setO_fz, setO_at, notBor_fz, notBor_own, notBor_no, isOwn_own, isOwn_bor, addD_ii, addD_ss, addD_ll, addD_tt, subD_ii, mulD_ii, mulD_li, mulD_ti, fdivD_ii, modD_ii, powD_ii, negD_i, ltD_ii, leD_ii, gtD_ii, geD_ii, isQ_n, isQ_b, nisQ_n, isN_non, isN_bl, isN_int, isN_str, isN_tup, isN_lst, isN_rol, isN_dct, isT_int_non, isT_int_bl, isT_int_int, isT_int_str, isT_int_tup, isT_int_lst, isT_int_rol, isT_int_dct, isT_bool_non, isT_bool_bl, isT_bool_int, isT_bool_str, isT_bool_tup, isT_bool_lst, isT_bool_rol, isT_bool_dct, isT_str_non, isT_str_bl, isT_str_int, isT_str_str, isT_str_tup, isT_str_lst, isT_str_rol, isT_str_dct, isT_tuple_non, isT_tuple_bl, isT_tuple_int, isT_tuple_str, isT_tuple_tup, isT_tuple_lst, isT_tuple_rol, isT_tuple_dct, isT_list_non, isT_list_bl, isT_list_int, isT_list_str, isT_list_tup, isT_list_lst, isT_list_rol, isT_list_dct, isT_dict_non, isT_dict_bl, isT_dict_int, isT_dict_str, isT_dict_tup, isT_dict_lst, isT_dict_rol, isT_dict_dct, truQ_non, truQ_bl, truQ_int, truQ_tup, truQ_lst, blQ_bl, lenD_tup, lenD_lst, lenD_rol, lenD_str, tupD_tup, tupD_lst, lstD_tup, lstD_lst, lstD_rol, intD_i, intD_b, boolD_i, boolD_b, ixD_tup, ixD_lst, ixD_rol, slD_lst, slD_tup, intQ_i, appD_1, extD_1, lsQ_own, lsQ_bor, gTp_t, gsCons_c, seqQ_t, seqQ_l, seqQ_r, hideS_fz, hideS_own, hideS_bor, hideS_no, mmQ_ii, atI_0, atI_1, atI_2, List.map_cons, List.map_nil, List.replicate, List.cons_append, List.nil_append, List.append_nil, List.set, List.length_cons, List.length_nil, decide_eq_true_eq, if_true, if_false, Bool.not_true, Bool.not_false, Bool.false_eq_true, and_true, true_and, List.nodup_cons, List.not_mem_nil, not_false_eq_true, List.nodup_nil, List.mem_cons, or_false, List.getD])
      refine ⟨(by simp [lents, slot, Sl.isOwn]), w_oneL hJ' d0 (by omega) fun e he o2 h2 => ?_⟩
      (try simp only [dSeq, dIfS, dRet, dRetN, dNext, dSet, dSetO, dDrop, dCall, callQ, dCallKw, dCons, dNil, dBor, dsQ, dTup, dLst, dV, dC, slot, dOp, dUn, dCmp, dCmpT, dChain, dChainT, dTru, dAnd, dOr, dNot, dAndV, dOrV, dNotV, dIf, dIsi, dNoO, dSoO, dSl, bodyQ, endsOf, outsOf, lents, putB, lentQ, dAsg, gNm, gsNil, iSeq, iRng, DL.iRng2, iEnm, dLm, dLm0, dPut, dMm, dYes, hQ, isSub, hideE, pick_0, pick_10, pick_210, rep2, kg, dFor, dLc, wipeD, restD, dPar, ixN3_0, ixN3_1, ixN3_2, ex_some, dRaise_1, dHeard_e, List.set_cons_zero, List.set_cons_succ, rdQ_fz, rdQ_own, rdQ_at, rdS_fz, rdS_own, rdS_bor, frzQ_fz, frzQ_own, frzQ_at, frS_fz, frS_own, nmQ_s, nmS_fz, nmS_own, nmS_bor, retQ_fz, retQ_own, retQ_at, rtS_fz, rtS_own, argsOf_at, argsOf_d, argsOf_n, lnS_own, lnS_bor, lnS_fz, reS_o, reS_b, setF_d, setO_own, setO_fz, setO_at, notBor_fz, notBor_own, notBor_no, isOwn_own, isOwn_bor, addD_ii, addD_ss, addD_ll, addD_tt, subD_ii, mulD_ii, mulD_li, mulD_ti, fdivD_ii, modD_ii, powD_ii, negD_i, ltD_ii, leD_ii, gtD_ii, geD_ii, isQ_n, isQ_b, nisQ_n, isN_non, isN_bl, isN_int, isN_str, isN_tup, isN_lst, isN_rol, isN_dct, isT_int_non, isT_int_bl, isT_int_int, isT_int_str, isT_int_tup, isT_int_lst, isT_int_rol, isT_int_dct, isT_bool_non, isT_bool_bl, isT_bool_int, isT_bool_str, isT_bool_tup, isT_bool_lst, isT_bool_rol, isT_bool_dct, isT_str_non, isT_str_bl, isT_str_int, isT_str_str, isT_str_tup, isT_str_lst, isT_str_rol, isT_str_dct, isT_tuple_non, isT_tuple_bl, isT_tuple_int, isT_tuple_str, isT_tuple_tup, isT_tuple_lst, isT_tuple_rol, isT_tuple_dct, isT_list_non, isT_list_bl, isT_list_int, isT_list_str, isT_list_tup, isT_list_lst, isT_list_rol, isT_list_dct, isT_dict_non, isT_dict_bl, isT_dict_int, isT_dict_str, isT_dict_tup, isT_dict_lst, isT_dict_rol, isT_dict_dct, truQ_non, truQ_bl, truQ_int, truQ_tup, truQ_lst, blQ_bl, lenD_tup, lenD_lst, lenD_rol, lenD_str, tupD_tup, tupD_lst, lstD_tup, lstD_lst, lstD_rol, intD_i, intD_b, boolD_i, boolD_b, ixD_tup, ixD_lst, ixD_rol, slD_lst, slD_tup, intQ_i, appD_1, extD_1, lsQ_own, lsQ_bor, gTp_t, gsCons_c, seqQ_t, seqQ_l, seqQ_r, hideS_fz, hideS_own, hideS_bor, hideS_no, mmQ_ii, atI_0, atI_1, atI_2, List.map_cons, List.map_nil, List.replicate, List.cons_append, List.nil_append, List.append_nil, List.set, List.length_cons, List.length_nil, decide_eq_true_eq, if_true, if_false, Bool.not_true, Bool.not_false, Bool.false_eq_true, and_true, true_and, List.nodup_cons, List.not_mem_nil, not_false_eq_true, List.nodup_nil, List.mem_cons, or_false, List.getD])
      exact fin e o2 h2 (d2 e he)
theorem w_zc_page {o : OC} {ss : List D} {Q : Rv → List OC → Prop} {ED : Nat → D → Prop} (hJ : J o) (hs : In6 ss) (hl : ss.length ≤ 1000) (hQ : ∀ ds o', J o' → ds.length = ss.length → Ints ds → Q (.fz (.tup ds)) [o']) : sp_zc_page [.bor o, .fz (.tup ss)] Q ED := by
  refine ⟨rfl, ?_⟩
  (try simp only [dSeq, dIfS, dRet, dRetN, dNext, dSet, dSetO, dDrop, dCall, callQ, dCallKw, dCons, dNil, dBor, dsQ, dTup, dLst, dV, dC, slot, dOp, dUn, dCmp, dCmpT, dChain, dChainT, dTru, dAnd, dOr, dNot, dAndV, dOrV, dNotV, dIf, dIsi, dNoO, dSoO, dSl, bodyQ, endsOf, outsOf, lents, putB, lentQ, dAsg, gNm, gsNil, iSeq, iRng, DL.iRng2, iEnm, dLm, dLm0, dPut, dMm, dYes, hQ, isSub, hideE, pick_0, pick_10, pick_210, rep2, kg, dFor, dLc, wipeD, restD, dPar, ixN3_0, ixN3_1, ixN3_2, ex_some, dRaise_1, dHeard_e, List.set_cons_zero, List.set_cons_succ, rdQ_fz, rdQ_own, rdQ_at, rdS_fz, rdS_own, rdS_bor, frzQ_fz, frzQ_own, frzQ_at, frS_fz, frS_own, nmQ_s, nmS_fz, nmS_own, nmS_bor, retQ_fz, retQ_own, retQ_at, rtS_fz, rtS_own, argsOf_at, argsOf_d, argsOf_n, lnS_own, lnS_bor, lnS_fz, reS_o, reS_b, setF_d, setO_own, setO_fz, setO_at, notBor_fz, notBor_own, notBor_no, isOwn_own, isOwn_bor, addD_ii, addD_ss, addD_ll, addD_tt, subD_ii, mulD_ii, mulD_li, mulD_ti, fdivD_ii, modD_ii, powD_ii, negD_i, ltD_ii, leD_ii, gtD_ii, geD_ii, isQ_n, isQ_b, nisQ_n, isN_non, isN_bl, isN_int, isN_str, isN_tup, isN_lst, isN_rol, isN_dct, isT_int_non, isT_int_bl, isT_int_int, isT_int_str, isT_int_tup, isT_int_lst, isT_int_rol, isT_int_dct, isT_bool_non, isT_bool_bl, isT_bool_int, isT_bool_str, isT_bool_tup, isT_bool_lst, isT_bool_rol, isT_bool_dct, isT_str_non, isT_str_bl, isT_str_int, isT_str_str, isT_str_tup, isT_str_lst, isT_str_rol, isT_str_dct, isT_tuple_non, isT_tuple_bl, isT_tuple_int, isT_tuple_str, isT_tuple_tup, isT_tuple_lst, isT_tuple_rol, isT_tuple_dct, isT_list_non, isT_list_bl, isT_list_int, isT_list_str, isT_list_tup, isT_list_lst, isT_list_rol, isT_list_dct, isT_dict_non, isT_dict_bl, isT_dict_int, isT_dict_str, isT_dict_tup, isT_dict_lst, isT_dict_rol, isT_dict_dct, truQ_non, truQ_bl, truQ_int, truQ_tup, truQ_lst, blQ_bl, lenD_tup, lenD_lst, lenD_rol, lenD_str, tupD_tup, tupD_lst, lstD_tup, lstD_lst, lstD_rol, intD_i, intD_b, boolD_i, boolD_b, ixD_tup, ixD_lst, ixD_rol, slD_lst, slD_tup, intQ_i, appD_1, extD_1, lsQ_own, lsQ_bor, gTp_t, gsCons_c, seqQ_t, seqQ_l, seqQ_r, hideS_fz, hideS_own, hideS_bor, hideS_no, mmQ_ii, atI_0, atI_1, atI_2, List.map_cons, List.map_nil, List.replicate, List.cons_append, List.nil_append, List.append_nil, List.set, List.length_cons, List.length_nil, decide_eq_true_eq, if_true, if_false, Bool.not_true, Bool.not_false, Bool.false_eq_true, and_true, true_and, List.nodup_cons, List.not_mem_nil, not_false_eq_true, List.nodup_nil, List.mem_cons, or_false, List.getD, td_zc_page])
  refine ⟨by simp [wipeOk, slot, notBor], ?_⟩
  refine lcL_ind (Inv := fun rest acc η => ∃ o', J o' ∧ η = [.bor o', .fz (.tup ss), .no] ∧ acc.length + rest.length = ss.length ∧ In6 rest ∧ Ints acc) ?_ ?_ _ _ _ ⟨o, hJ, by (try simp only [dSeq, dIfS, dRet, dRetN, dNext, dSet, dSetO, dDrop, dCall, callQ, dCallKw, dCons, dNil, dBor, dsQ, dTup, dLst, dV, dC, slot, dOp, dUn, dCmp, dCmpT, dChain, dChainT, dTru, dAnd, dOr, dNot, dAndV, dOrV, dNotV, dIf, dIsi, dNoO, dSoO, dSl, bodyQ, endsOf, outsOf, lents, putB, lentQ, dAsg, gNm, gsNil, iSeq, iRng, DL.iRng2, iEnm, dLm, dLm0, dPut, dMm, dYes, hQ, isSub, hideE, pick_0, pick_10, pick_210, rep2, kg, dFor, dLc, wipeD, restD, dPar, ixN3_0, ixN3_1, ixN3_2, ex_some, dRaise_1, dHeard_e, List.set_cons_zero, List.set_cons_succ, rdQ_fz, rdQ_own, rdQ_at, rdS_fz, rdS_own, rdS_bor, frzQ_fz, frzQ_own, frzQ_at, frS_fz, frS_own, nmQ_s, nmS_fz, nmS_own, nmS_bor, retQ_fz, retQ_own, retQ_at, rtS_fz, rtS_own, argsOf_at, argsOf_d, argsOf_n, lnS_own, lnS_bor, lnS_fz, reS_o, reS_b, setF_d, setO_own, setO_fz, setO_at, notBor_fz, notBor_own, notBor_no, isOwn_own, isOwn_bor, addD_ii, addD_ss, addD_ll, addD_tt, subD_ii, mulD_ii, mulD_li, mulD_ti, fdivD_ii, modD_ii, powD_ii, negD_i, ltD_ii, leD_ii, gtD_ii, geD_ii, isQ_n, isQ_b, nisQ_n, isN_non, isN_bl, isN_int, isN_str, isN_tup, isN_lst, isN_rol, isN_dct, isT_int_non, isT_int_bl, isT_int_int, isT_int_str, isT_int_tup, isT_int_lst, isT_int_rol, isT_int_dct, isT_bool_non, isT_bool_bl, isT_bool_int, isT_bool_str, isT_bool_tup, isT_bool_lst, isT_bool_rol, isT_bool_dct, isT_str_non, isT_str_bl, isT_str_int, isT_str_str, isT_str_tup, isT_str_lst, isT_str_rol, isT_str_dct, isT_tuple_non, isT_tuple_bl, isT_tuple_int, isT_tuple_str, isT_tuple_tup, isT_tuple_lst, isT_tuple_rol, isT_tuple_dct, isT_list_non, isT_list_bl, isT_list_int, isT_list_str, isT_list_tup, isT_list_lst, isT_list_rol, isT_list_dct, isT_dict_non, isT_dict_bl, isT_dict_int, isT_dict_str, isT_dict_tup, isT_dict_lst, isT_dict_rol, isT_dict_dct, truQ_non, truQ_bl, truQ_int, truQ_tup, truQ_lst, blQ_bl, lenD_tup, lenD_lst, lenD_rol, lenD_str, tupD_tup, tupD_lst, lstD_tup, lstD_lst, lstD_rol, intD_i, intD_b, boolD_i, boolD_b, ixD_tup, ixD_lst, ixD_rol, slD_lst, slD_tup, intQ_i, appD_1, extD_1, lsQ_own, lsQ_bor, gTp_t, gsCons_c, seqQ_t, seqQ_l, seqQ_r, hideS_fz, hideS_own, hideS_bor, hideS_no, mmQ_ii, atI_0, atI_1, atI_2, List.map_cons, List.map_nil, List.replicate, List.cons_append, List.nil_append, List.append_nil, List.set, List.length_cons, List.length_nil, decide_eq_true_eq, if_true, if_false, Bool.not_true, Bool.not_false, Bool.false_eq_true, and_true, true_and, List.nodup_cons, List.not_mem_nil, not_false_eq_true, List.nodup_nil, List.mem_cons, or_false, List.getD]), by simp, hs, fun d hd => by cases hd⟩
  · rintro acc η ⟨o', hJ', rfl, r3, r4, r5⟩
    (try simp only [dSeq, dIfS, dRet, dRetN, dNext, dSet, dSetO, dDrop, dCall, callQ, dCallKw, dCons, dNil, dBor, dsQ, dTup, dLst, dV, dC, slot, dOp, dUn, dCmp, dCmpT, dChain, dChainT, dTru, dAnd, dOr, dNot, dAndV, dOrV, dNotV, dIf, dIsi, dNoO, dSoO, dSl, bodyQ, endsOf, outsOf, lents, putB, lentQ, dAsg, gNm, gsNil, iSeq, iRng, DL.iRng2, iEnm, dLm, dLm0, dPut, dMm, dYes, hQ, isSub, hideE, pick_0, pick_10, pick_210, rep2, kg, dFor, dLc, wipeD, restD, dPar, ixN3_0, ixN3_1, ixN3_2, ex_some, dRaise_1, dHeard_e, List.set_cons_zero, List.set_cons_succ, rdQ_fz, rdQ_own, rdQ_at, rdS_fz, rdS_own, rdS_bor, frzQ_fz, frzQ_own, frzQ_at, frS_fz, frS_own, nmQ_s, nmS_fz, nmS_own, nmS_bor, retQ_fz, retQ_own, retQ_at, rtS_fz, rtS_own, argsOf_at, argsOf_d, argsOf_n, lnS_own, lnS_bor, lnS_fz, reS_o, reS_b, setF_d, setO_own, setO_fz, setO_at, notBor_fz, notBor_own, notBor_no, isOwn_own, isOwn_bor, addD_ii, addD_ss, addD_ll, addD_tt, subD_ii, mulD_ii, mulD_li, mulD_ti, fdivD_ii, modD_ii, powD_ii, negD_i, ltD_ii, leD_ii, gtD_ii, geD_ii, isQ_n, isQ_b, nisQ_n, isN_non, isN_bl, isN_int, isN_str, isN_tup, isN_lst, isN_rol, isN_dct, isT_int_non, isT_int_bl, isT_int_int, isT_int_str, isT_int_tup, isT_int_lst, isT_int_rol, isT_int_dct, isT_bool_non, isT_bool_bl, isT_bool_int, isT_bool_str, isT_bool_tup, isT_bool_lst, isT_bool_rol, isT_bool_dct, isT_str_non, isT_str_bl, isT_str_int, isT_str_str, isT_str_tup, isT_str_lst, isT_str_rol, isT_str_dct, isT_tuple_non, isT_tuple_bl, isT_tuple_int, isT_tuple_str, isT_tuple_tup, isT_tuple_lst, isT_tuple_rol, isT_tuple_dct, isT_list_non, isT_list_bl, isT_list_int, isT_list_str, isT_list_tup, isT_list_lst, isT_list_rol, isT_list_dct, isT_dict_non, isT_dict_bl, isT_dict_int, isT_dict_str, isT_dict_tup, isT_dict_lst, isT_dict_rol, isT_dict_dct, truQ_non, truQ_bl, truQ_int, truQ_tup, truQ_lst, blQ_bl, lenD_tup, lenD_lst, lenD_rol, lenD_str, tupD_tup, tupD_lst, lstD_tup, lstD_lst, lstD_rol, intD_i, intD_b, boolD_i, boolD_b, ixD_tup, ixD_lst, ixD_rol, slD_lst, slD_tup, intQ_i, appD_1, extD_1, lsQ_own, lsQ_bor, gTp_t, gsCons_c, seqQ_t, seqQ_l, seqQ_r, hideS_fz, hideS_own, hideS_bor, hideS_no, mmQ_ii, atI_0, atI_1, atI_2, List.map_cons, List.map_nil, List.replicate, List.cons_append, List.nil_append, List.append_nil, List.set, List.length_cons, List.length_nil, decide_eq_true_eq, if_true, if_false, Bool.not_true, Bool.not_false, Bool.false_eq_true, and_true, true_and, List.nodup_cons, List.not_mem_nil, not_false_eq_true, List.nodup_nil, List.mem_cons, or_false, List.getD])
    exact hQ _ _ hJ' (by simpa using r3) r5
  · rintro d rest acc η K ⟨o', hJ', rfl, r3, r4, r5⟩ hK
    obtain ⟨x, rfl, x1, x2⟩ := r4 d List.mem_cons_self
    (try simp only [dSeq, dIfS, dRet, dRetN, dNext, dSet, dSetO, dDrop, dCall, callQ, dCallKw, dCons, dNil, dBor, dsQ, dTup, dLst, dV, dC, slot, dOp, dUn, dCmp, dCmpT, dChain, dChainT, dTru, dAnd, dOr, dNot, dAndV, dOrV, dNotV, dIf, dIsi, dNoO, dSoO, dSl, bodyQ, endsOf, outsOf, lents, putB, lentQ, dAsg, gNm, gsNil, iSeq, iRng, DL.iRng2, iEnm, dLm, dLm0, dPut, dMm, dYes, hQ, isSub, hideE, pick_0, pick_10, pick_210, rep2, kg, dFor, dLc, wipeD, restD, dPar, ixN3_0, ixN3_1, ixN3_2, ex_some, dRaise_1, dHeard_e, List.set_cons_zero, List.set_cons_succ, rdQ_fz, rdQ_own, rdQ_at, rdS_fz, rdS_own, rdS_bor, frzQ_fz, frzQ_own, frzQ_at, frS_fz, frS_own, nmQ_s, nmS_fz, nmS_own, nmS_bor, retQ_fz, retQ_own, retQ_at, rtS_fz, rtS_own, argsOf_at, argsOf_d, argsOf_n, lnS_own, lnS_bor, lnS_fz, reS_o, reS_b, setF_d, setO_own, setO_fz, setO_at, notBor_fz, notBor_own, notBor_no, isOwn_own, isOwn_bor, addD_ii, addD_ss, addD_ll, addD_tt, subD_ii, mulD_ii, mulD_li, mulD_ti, fdivD_ii, modD_ii, powD_ii, negD_i, ltD_ii, leD_ii, gtD_ii, geD_ii, isQ_n, isQ_b, nisQ_n, isN_non, isN_bl, isN_int, isN_str, isN_tup, isN_lst, isN_rol, isN_dct, isT_int_non, isT_int_bl, isT_int_int, isT_int_str, isT_int_tup, isT_int_lst, isT_int_rol, isT_int_dct, isT_bool_non, isT_bool_bl, isT_bool_int, isT_bool_str, isT_bool_tup, isT_bool_lst, isT_bool_rol, isT_bool_dct, isT_str_non, isT_str_bl, isT_str_int, isT_str_str, isT_str_tup, isT_str_lst, isT_str_rol, isT_str_dct, isT_tuple_non, isT_tuple_bl, isT_tuple_int, isT_tuple_str, isT_tuple_tup, isT_tuple_lst, isT_tuple_rol, isT_tuple_dct, isT_list_non, isT_list_bl, isT_list_int, isT_list_str, isT_list_tup, isT_list_lst, isT_list_rol, isT_list_dct, isT_dict_non, isT_dict_bl, isT_dict_int, isT_dict_str, isT_dict_tup, isT_dict_lst, isT_dict_rol, isT_dict_dct, truQ_non, truQ_bl, truQ_int, truQ_tup, truQ_lst, blQ_bl, lenD_tup, lenD_lst, lenD_rol, lenD_str, tupD_tup, tupD_lst, lstD_tup, lstD_lst, lstD_rol, intD_i, intD_b, boolD_i, boolD_b, ixD_tup, ixD_lst, ixD_rol, slD_lst, slD_tup, intQ_i, appD_1, extD_1, lsQ_own, lsQ_bor, gTp_t, gsCons_c, seqQ_t, seqQ_l, seqQ_r, hideS_fz, hideS_own, hideS_bor, hideS_no, mmQ_ii, atI_0, atI_1, atI_2, List.map_cons, List.map_nil, List.replicate, List.cons_append, List.nil_append, List.append_nil, List.set, List.length_cons, List.length_nil, decide_eq_true_eq, if_true, if_false, Bool.not_true, Bool.not_false, Bool.false_eq_true, and_true, true_and, List.nodup_cons, List.not_mem_nil, not_false_eq_true, List.nodup_nil, List.mem_cons, or_false, List.getD])
    refine ⟨(by simp [lents, slot, Sl.isOwn]), w_take hJ' (by omega) (lg (by omega) (by omega)) fun v o2 h2 v0 v1 => ?_⟩
    (try simp only [dSeq, dIfS, dRet, dRetN, dNext, dSet, dSetO, dDrop, dCall, callQ, dCallKw, dCons, dNil, dBor, dsQ, dTup, dLst, dV, dC, slot, dOp, dUn, dCmp, dCmpT, dChain, dChainT, dTru, dAnd, dOr, dNot, dAndV, dOrV, dNotV, dIf, dIsi, dNoO, dSoO, dSl, bodyQ, endsOf, outsOf, lents, putB, lentQ, dAsg, gNm, gsNil, iSeq, iRng, DL.iRng2, iEnm, dLm, dLm0, dPut, dMm, dYes, hQ, isSub, hideE, pick_0, pick_10, pick_210, rep2, kg, dFor, dLc, wipeD, restD, dPar, ixN3_0, ixN3_1, ixN3_2, ex_some, dRaise_1, dHeard_e, List.set_cons_zero, List.set_cons_succ, rdQ_fz, rdQ_own, rdQ_at, rdS_fz, rdS_own, rdS_bor, frzQ_fz, frzQ_own, frzQ_at, frS_fz, frS_own, nmQ_s, nmS_fz, nmS_own, nmS_bor, retQ_fz, retQ_own, retQ_at, rtS_fz, rtS_own, argsOf_at, argsOf_d, argsOf_n, lnS_own, lnS_bor, lnS_fz, reS_o, reS_b, setF_d, setO_own, setO_fz, setO_at, notBor_fz, notBor_own, notBor_no, isOwn_own, isOwn_bor, addD_ii, addD_ss, addD_ll, addD_tt, subD_ii, mulD_ii, mulD_li, mulD_ti, fdivD_ii, modD_ii, powD_ii, negD_i, ltD_ii, leD_ii, gtD_ii, geD_ii, isQ_n, isQ_b, nisQ_n, isN_non, isN_bl, isN_int, isN_str, isN_tup, isN_lst, isN_rol, isN_dct, isT_int_non, isT_int_bl, isT_int_int, isT_int_str, isT_int_tup, isT_int_lst, isT_int_rol, isT_int_dct, isT_bool_non, isT_bool_bl, isT_bool_int, isT_bool_str, isT_bool_tup, isT_bool_lst, isT_bool_rol, isT_bool_dct, isT_str_non, isT_str_bl, isT_str_int, isT_str_str, isT_str_tup, isT_str_lst, isT_str_rol, isT_str_dct, isT_tuple_non, isT_tuple_bl, isT_tuple_int, isT_tuple_str, isT_tuple_tup, isT_tuple_lst, isT_tuple_rol, isT_tuple_dct, isT_list_non, isT_list_bl, isT_list_int, isT_list_str, isT_list_tup, isT_list_lst, isT_list_rol, isT_list_dct, isT_dict_non, isT_dict_bl, isT_dict_int, isT_dict_str, isT_dict_tup, isT_dict_lst, isT_dict_rol, isT_dict_dct, truQ_non, truQ_bl, truQ_int, truQ_tup, truQ_lst, blQ_bl, lenD_tup, lenD_lst, lenD_rol, lenD_str, tupD_tup, tupD_lst, lstD_tup, lstD_lst, lstD_rol, intD_i, intD_b, boolD_i, boolD_b, ixD_tup, ixD_lst, ixD_rol, slD_lst, slD_tup, intQ_i, appD_1, extD_1, lsQ_own, lsQ_bor, gTp_t, gsCons_c, seqQ_t, seqQ_l, seqQ_r, hideS_fz, hideS_own, hideS_bor, hideS_no, mmQ_ii, atI_0, atI_1, atI_2, List.map_cons, List.map_nil, List.replicate, List.cons_append, List.nil_append, List.append_nil, List.set, List.length_cons, List.length_nil, decide_eq_true_eq, if_true, if_false, Bool.not_true, Bool.not_false, Bool.false_eq_true, and_true, true_and, List.nodup_cons, List.not_mem_nil, not_false_eq_true, List.nodup_nil, List.mem_cons, or_false, List.getD])
    refine ⟨by rw [sizeLine_eq]; simp at r3; omega, by simp [wipeOk, slot, notBor], hK _ _ ⟨o2, h2, rfl, by simp at r3 ⊢; omega, fun e he => r4 e (List.mem_cons_of_mem _ he), fun e he => ?_⟩⟩
    rcases List.mem_append.mp he with he | he
    · exact r5 e he
    · rw [List.mem_singleton] at he; exact ⟨_, he⟩
theorem w_deep {o : OC} {d : D} {m : Nat} {Q : Rv → List OC → Prop} {ED : Nat → D → Prop} (hJ : J o) (hd : Y m d) (hQ : ∀ e o', J o' → Y (m + 40) e → Q (.fz e) [o']) : sp_deep [.bor o, .fz d] Q ED := by
  refine ⟨rfl, ?_⟩
  (try simp only [dSeq, dIfS, dRet, dRetN, dNext, dSet, dSetO, dDrop, dCall, callQ, dCallKw, dCons, dNil, dBor, dsQ, dTup, dLst, dV, dC, slot, dOp, dUn, dCmp, dCmpT, dChain, dChainT, dTru, dAnd, dOr, dNot, dAndV, dOrV, dNotV, dIf, dIsi, dNoO, dSoO, dSl, bodyQ, endsOf, outsOf, lents, putB, lentQ, dAsg, gNm, gsNil, iSeq, iRng, DL.iRng2, iEnm, dLm, dLm0, dPut, dMm, dYes, hQ, isSub, hideE, pick_0, pick_10, pick_210, rep2, kg, dFor, dLc, wipeD, restD, dPar, ixN3_0, ixN3_1, ixN3_2, ex_some, dRaise_1, dHeard_e, List.set_cons_zero, List.set_cons_succ, rdQ_fz, rdQ_own, rdQ_at, rdS_fz, rdS_own, rdS_bor, frzQ_fz, frzQ_own, frzQ_at, frS_fz, frS_own, nmQ_s, nmS_fz, nmS_own, nmS_bor, retQ_fz, retQ_own, retQ_at, rtS_fz, rtS_own, argsOf_at, argsOf_d, argsOf_n, lnS_own, lnS_bor, lnS_fz, reS_o, reS_b, setF_d, setO_own, setO_fz, setO_at, notBor_fz, notBor_own, notBor_no, isOwn_own, isOwn_bor, addD_ii, addD_ss, addD_ll, addD_tt, subD_ii, mulD_ii, mulD_li, mulD_ti, fdivD_ii, modD_ii, powD_ii, negD_i, ltD_ii, leD_ii, gtD_ii, geD_ii, isQ_n, isQ_b, nisQ_n, isN_non, isN_bl, isN_int, isN_str, isN_tup, isN_lst, isN_rol, isN_dct, isT_int_non, isT_int_bl, isT_int_int, isT_int_str, isT_int_tup, isT_int_lst, isT_int_rol, isT_int_dct, isT_bool_non, isT_bool_bl, isT_bool_int, isT_bool_str, isT_bool_tup, isT_bool_lst, isT_bool_rol, isT_bool_dct, isT_str_non, isT_str_bl, isT_str_int, isT_str_str, isT_str_tup, isT_str_lst, isT_str_rol, isT_str_dct, isT_tuple_non, isT_tuple_bl, isT_tuple_int, isT_tuple_str, isT_tuple_tup, isT_tuple_lst, isT_tuple_rol, isT_tuple_dct, isT_list_non, isT_list_bl, isT_list_int, isT_list_str, isT_list_tup, isT_list_lst, isT_list_rol, isT_list_dct, isT_dict_non, isT_dict_bl, isT_dict_int, isT_dict_str, isT_dict_tup, isT_dict_lst, isT_dict_rol, isT_dict_dct, truQ_non, truQ_bl, truQ_int, truQ_tup, truQ_lst, blQ_bl, lenD_tup, lenD_lst, lenD_rol, lenD_str, tupD_tup, tupD_lst, lstD_tup, lstD_lst, lstD_rol, intD_i, intD_b, boolD_i, boolD_b, ixD_tup, ixD_lst, ixD_rol, slD_lst, slD_tup, intQ_i, appD_1, extD_1, lsQ_own, lsQ_bor, gTp_t, gsCons_c, seqQ_t, seqQ_l, seqQ_r, hideS_fz, hideS_own, hideS_bor, hideS_no, mmQ_ii, atI_0, atI_1, atI_2, List.map_cons, List.map_nil, List.replicate, List.cons_append, List.nil_append, List.append_nil, List.set, List.length_cons, List.length_nil, decide_eq_true_eq, if_true, if_false, Bool.not_true, Bool.not_false, Bool.false_eq_true, and_true, true_and, List.nodup_cons, List.not_mem_nil, not_false_eq_true, List.nodup_nil, List.mem_cons, or_false, List.getD, td_deep])
  refine ⟨⟨by decide, by decide⟩, ?_⟩
  rw [rngD_0]
  refine forL_ind (Inv := fun rest η => ∃ i k o' e s, rest = rngs i k ∧ i + k = 40 ∧ J o' ∧ η = [.bor o', .fz e, s] ∧ notBor s = true ∧ Y (m + i) e) ?_ ?_ _ _ ⟨0, 40, o, d, .no, rfl, rfl, hJ, rfl, rfl, hd⟩
  · rintro η ⟨i, k, o', e, s, r1, r2, hJ', rfl, r3, r4⟩
    cases k with
    | succ k => cases r1
    | zero =>
      (try simp only [dSeq, dIfS, dRet, dRetN, dNext, dSet, dSetO, dDrop, dCall, callQ, dCallKw, dCons, dNil, dBor, dsQ, dTup, dLst, dV, dC, slot, dOp, dUn, dCmp, dCmpT, dChain, dChainT, dTru, dAnd, dOr, dNot, dAndV, dOrV, dNotV, dIf, dIsi, dNoO, dSoO, dSl, bodyQ, endsOf, outsOf, lents, putB, lentQ, dAsg, gNm, gsNil, iSeq, iRng, DL.iRng2, iEnm, dLm, dLm0, dPut, dMm, dYes, hQ, isSub, hideE, pick_0, pick_10, pick_210, rep2, kg, dFor, dLc, wipeD, restD, dPar, ixN3_0, ixN3_1, ixN3_2, ex_some, dRaise_1, dHeard_e, List.set_cons_zero, List.set_cons_succ, rdQ_fz, rdQ_own, rdQ_at, rdS_fz, rdS_own, rdS_bor, frzQ_fz, frzQ_own, frzQ_at, frS_fz, frS_own, nmQ_s, nmS_fz, nmS_own, nmS_bor, retQ_fz, retQ_own, retQ_at, rtS_fz, rtS_own, argsOf_at, argsOf_d, argsOf_n, lnS_own, lnS_bor, lnS_fz, reS_o, reS_b, setF_d, setO_own, setO_fz, setO_at, notBor_fz, notBor_own, notBor_no, isOwn_own, isOwn_bor, addD_ii, addD_ss, addD_ll, addD_tt, subD_ii, mulD_ii, mulD_li, mulD_ti, fdivD_ii, modD_ii, powD_ii, negD_i, ltD_ii, leD_ii, gtD_ii, geD_ii, isQ_n, isQ_b, nisQ_n, isN_non, isN_bl, isN_int, isN_str, isN_tup, isN_lst, isN_rol, isN_dct, isT_int_non, isT_int_bl, isT_int_int, isT_int_str, isT_int_tup, isT_int_lst, isT_int_rol, isT_int_dct, isT_bool_non, isT_bool_bl, isT_bool_int, isT_bool_str, isT_bool_tup, isT_bool_lst, isT_bool_rol, isT_bool_dct, isT_str_non, isT_str_bl, isT_str_int, isT_str_str, isT_str_tup, isT_str_lst, isT_str_rol, isT_str_dct, isT_tuple_non, isT_tuple_bl, isT_tuple_int, isT_tuple_str, isT_tuple_tup, isT_tuple_lst, isT_tuple_rol, isT_tuple_dct, isT_list_non, isT_list_bl, isT_list_int, isT_list_str, isT_list_tup, isT_list_lst, isT_list_rol, isT_list_dct, isT_dict_non, isT_dict_bl, isT_dict_int, isT_dict_str, isT_dict_tup, isT_dict_lst, isT_dict_rol, isT_dict_dct, truQ_non, truQ_bl, truQ_int, truQ_tup, truQ_lst, blQ_bl, lenD_tup, lenD_lst, lenD_rol, lenD_str, tupD_tup, tupD_lst, lstD_tup, lstD_lst, lstD_rol, intD_i, intD_b, boolD_i, boolD_b, ixD_tup, ixD_lst, ixD_rol, slD_lst, slD_tup, intQ_i, appD_1, extD_1, lsQ_own, lsQ_bor, gTp_t, gsCons_c, seqQ_t, seqQ_l, seqQ_r, hideS_fz, hideS_own, hideS_bor, hideS_no, mmQ_ii, atI_0, atI_1, atI_2, List.map_cons, List.map_nil, List.replicate, List.cons_append, List.nil_append, List.append_nil, List.set, List.length_cons, List.length_nil, decide_eq_true_eq, if_true, if_false, Bool.not_true, Bool.not_false, Bool.false_eq_true, and_true, true_and, List.nodup_cons, List.not_mem_nil, not_false_eq_true, List.nodup_nil, List.mem_cons, or_false, List.getD])
      exact hQ _ _ hJ' (r4.le (by omega))
  · rintro x rest η K ⟨i, k, o', e, s, r1, r2, hJ', rfl, r3, r4⟩ hK
    cases k with
    | zero => cases r1
    | succ k =>
      obtain ⟨rfl, rfl⟩ := List.cons.inj r1
      (try simp only [dSeq, dIfS, dRet, dRetN, dNext, dSet, dSetO, dDrop, dCall, callQ, dCallKw, dCons, dNil, dBor, dsQ, dTup, dLst, dV, dC, slot, dOp, dUn, dCmp, dCmpT, dChain, dChainT, dTru, dAnd, dOr, dNot, dAndV, dOrV, dNotV, dIf, dIsi, dNoO, dSoO, dSl, bodyQ, endsOf, outsOf, lents, putB, lentQ, dAsg, gNm, gsNil, iSeq, iRng, DL.iRng2, iEnm, dLm, dLm0, dPut, dMm, dYes, hQ, isSub, hideE, pick_0, pick_10, pick_210, rep2, kg, dFor, dLc, wipeD, restD, dPar, ixN3_0, ixN3_1, ixN3_2, ex_some, dRaise_1, dHeard_e, List.set_cons_zero, List.set_cons_succ, rdQ_fz, rdQ_own, rdQ_at, rdS_fz, rdS_own, rdS_bor, frzQ_fz, frzQ_own, frzQ_at, frS_fz, frS_own, nmQ_s, nmS_fz, nmS_own, nmS_bor, retQ_fz, retQ_own, retQ_at, rtS_fz, rtS_own, argsOf_at, argsOf_d, argsOf_n, lnS_own, lnS_bor, lnS_fz, reS_o, reS_b, setF_d, setO_own, setO_fz, setO_at, notBor_fz, notBor_own, notBor_no, isOwn_own, isOwn_bor, addD_ii, addD_ss, addD_ll, addD_tt, subD_ii, mulD_ii, mulD_li, mulD_ti, fdivD_ii, modD_ii, powD_ii, negD_i, ltD_ii, leD_ii, gtD_ii, geD_ii, isQ_n, isQ_b, nisQ_n, isN_non, isN_bl, isN_int, isN_str, isN_tup, isN_lst, isN_rol, isN_dct, isT_int_non, isT_int_bl, isT_int_int, isT_int_str, isT_int_tup, isT_int_lst, isT_int_rol, isT_int_dct, isT_bool_non, isT_bool_bl, isT_bool_int, isT_bool_str, isT_bool_tup, isT_bool_lst, isT_bool_rol, isT_bool_dct, isT_str_non, isT_str_bl, isT_str_int, isT_str_str, isT_str_tup, isT_str_lst, isT_str_rol, isT_str_dct, isT_tuple_non, isT_tuple_bl, isT_tuple_int, isT_tuple_str, isT_tuple_tup, isT_tuple_lst, isT_tuple_rol, isT_tuple_dct, isT_list_non, isT_list_bl, isT_list_int, isT_list_str, isT_list_tup, isT_list_lst, isT_list_rol, isT_list_dct, isT_dict_non, isT_dict_bl, isT_dict_int, isT_dict_str, isT_dict_tup, isT_dict_lst, isT_dict_rol, isT_dict_dct, truQ_non, truQ_bl, truQ_int, truQ_tup, truQ_lst, blQ_bl, lenD_tup, lenD_lst, lenD_rol, lenD_str, tupD_tup, tupD_lst, lstD_tup, lstD_lst, lstD_rol, intD_i, intD_b, boolD_i, boolD_b, ixD_tup, ixD_lst, ixD_rol, slD_lst, slD_tup, intQ_i, appD_1, extD_1, lsQ_own, lsQ_bor, gTp_t, gsCons_c, seqQ_t, seqQ_l, seqQ_r, hideS_fz, hideS_own, hideS_bor, hideS_no, mmQ_ii, atI_0, atI_1, atI_2, List.map_cons, List.map_nil, List.replicate, List.cons_append, List.nil_append, List.append_nil, List.set, List.length_cons, List.length_nil, decide_eq_true_eq, if_true, if_false, Bool.not_true, Bool.not_false, Bool.false_eq_true, and_true, true_and, List.nodup_cons, List.not_mem_nil, not_false_eq_true, List.nodup_nil, List.mem_cons, or_false, List.getD, r3])
      refine ⟨(by simp [lents, slot, Sl.isOwn]), w_take hJ' (by decide) (by decide) fun v o2 h2 v0 v1 => ?_⟩
      (try simp only [dSeq, dIfS, dRet, dRetN, dNext, dSet, dSetO, dDrop, dCall, callQ, dCallKw, dCons, dNil, dBor, dsQ, dTup, dLst, dV, dC, slot, dOp, dUn, dCmp, dCmpT, dChain, dChainT, dTru, dAnd, dOr, dNot, dAndV, dOrV, dNotV, dIf, dIsi, dNoO, dSoO, dSl, bodyQ, endsOf, outsOf, lents, putB, lentQ, dAsg, gNm, gsNil, iSeq, iRng, DL.iRng2, iEnm, dLm, dLm0, dPut, dMm, dYes, hQ, isSub, hideE, pick_0, pick_10, pick_210, rep2, kg, dFor, dLc, wipeD, restD, dPar, ixN3_0, ixN3_1, ixN3_2, ex_some, dRaise_1, dHeard_e, List.set_cons_zero, List.set_cons_succ, rdQ_fz, rdQ_own, rdQ_at, rdS_fz, rdS_own, rdS_bor, frzQ_fz, frzQ_own, frzQ_at, frS_fz, frS_own, nmQ_s, nmS_fz, nmS_own, nmS_bor, retQ_fz, retQ_own, retQ_at, rtS_fz, rtS_own, argsOf_at, argsOf_d, argsOf_n, lnS_own, lnS_bor, lnS_fz, reS_o, reS_b, setF_d, setO_own, setO_fz, setO_at, notBor_fz, notBor_own, notBor_no, isOwn_own, isOwn_bor, addD_ii, addD_ss, addD_ll, addD_tt, subD_ii, mulD_ii, mulD_li, mulD_ti, fdivD_ii, modD_ii, powD_ii, negD_i, ltD_ii, leD_ii, gtD_ii, geD_ii, isQ_n, isQ_b, nisQ_n, isN_non, isN_bl, isN_int, isN_str, isN_tup, isN_lst, isN_rol, isN_dct, isT_int_non, isT_int_bl, isT_int_int, isT_int_str, isT_int_tup, isT_int_lst, isT_int_rol, isT_int_dct, isT_bool_non, isT_bool_bl, isT_bool_int, isT_bool_str, isT_bool_tup, isT_bool_lst, isT_bool_rol, isT_bool_dct, isT_str_non, isT_str_bl, isT_str_int, isT_str_str, isT_str_tup, isT_str_lst, isT_str_rol, isT_str_dct, isT_tuple_non, isT_tuple_bl, isT_tuple_int, isT_tuple_str, isT_tuple_tup, isT_tuple_lst, isT_tuple_rol, isT_tuple_dct, isT_list_non, isT_list_bl, isT_list_int, isT_list_str, isT_list_tup, isT_list_lst, isT_list_rol, isT_list_dct, isT_dict_non, isT_dict_bl, isT_dict_int, isT_dict_str, isT_dict_tup, isT_dict_lst, isT_dict_rol, isT_dict_dct, truQ_non, truQ_bl, truQ_int, truQ_tup, truQ_lst, blQ_bl, lenD_tup, lenD_lst, lenD_rol, lenD_str, tupD_tup, tupD_lst, lstD_tup, lstD_lst, lstD_rol, intD_i, intD_b, boolD_i, boolD_b, ixD_tup, ixD_lst, ixD_rol, slD_lst, slD_tup, intQ_i, appD_1, extD_1, lsQ_own, lsQ_bor, gTp_t, gsCons_c, seqQ_t, seqQ_l, seqQ_r, hideS_fz, hideS_own, hideS_bor, hideS_no, mmQ_ii, atI_0, atI_1, atI_2, List.map_cons, List.map_nil, List.replicate, List.cons_append, List.nil_append, List.append_nil, List.set, List.length_cons, List.length_nil, decide_eq_true_eq, if_true, if_false, Bool.not_true, Bool.not_false, Bool.false_eq_true, and_true, true_and, List.nodup_cons, List.not_mem_nil, not_false_eq_true, List.nodup_nil, List.mem_cons, or_false, List.getD])
      refine ⟨okD_int, okD_int, ?_⟩
      rw [eqD_int]
      have hy1 : Y (m + (i + 1)) (.tup [e]) := ⟨ln3 (by show 1 ≤ 1000; decide), fun z hz => by rw [List.mem_singleton] at hz; rw [hz]; exact r4⟩
      have hy2 : Y (m + (i + 1)) (.lst [e]) := ⟨ln3 (by show 1 ≤ 1000; decide), fun z hz => by rw [List.mem_singleton] at hz; rw [hz]; exact r4⟩
      by_cases c : (v == 0) = true
      · (try simp only [dSeq, dIfS, dRet, dRetN, dNext, dSet, dSetO, dDrop, dCall, callQ, dCallKw, dCons, dNil, dBor, dsQ, dTup, dLst, dV, dC, slot, dOp, dUn, dCmp, dCmpT, dChain, dChainT, dTru, dAnd, dOr, dNot, dAndV, dOrV, dNotV, dIf, dIsi, dNoO, dSoO, dSl, bodyQ, endsOf, outsOf, lents, putB, lentQ, dAsg, gNm, gsNil, iSeq, iRng, DL.iRng2, iEnm, dLm, dLm0, dPut, dMm, dYes, hQ, isSub, hideE, pick_0, pick_10, pick_210, rep2, kg, dFor, dLc, wipeD, restD, dPar, ixN3_0, ixN3_1, ixN3_2, ex_some, dRaise_1, dHeard_e, List.set_cons_zero, List.set_cons_succ, rdQ_fz, rdQ_own, rdQ_at, rdS_fz, rdS_own, rdS_bor, frzQ_fz, frzQ_own, frzQ_at, frS_fz, frS_own, nmQ_s, nmS_fz, nmS_own, nmS_bor, retQ_fz, retQ_own, retQ_at, rtS_fz, rtS_own, argsOf_at, argsOf_d, argsOf_n, lnS_own, lnS_bor, lnS_fz, reS_o, reS_b, setF_d, setO_own, setO_fz, setO_at, notBor_fz, notBor_own, notBor_no, isOwn_own, isOwn_bor, addD_ii, addD_ss, addD_ll, addD_tt, subD_ii, mulD_ii, mulD_li, mulD_ti, fdivD_ii, modD_ii, powD_ii, negD_i, ltD_ii, leD_ii, gtD_ii, geD_ii, isQ_n, isQ_b, nisQ_n, isN_non, isN_bl, isN_int, isN_str, isN_tup, isN_lst, isN_rol, isN_dct, isT_int_non, isT_int_bl, isT_int_int, isT_int_str, isT_int_tup, isT_int_lst, isT_int_rol, isT_int_dct, isT_bool_non, isT_bool_bl, isT_bool_int, isT_bool_str, isT_bool_tup, isT_bool_lst, isT_bool_rol, isT_bool_dct, isT_str_non, isT_str_bl, isT_str_int, isT_str_str, isT_str_tup, isT_str_lst, isT_str_rol, isT_str_dct, isT_tuple_non, isT_tuple_bl, isT_tuple_int, isT_tuple_str, isT_tuple_tup, isT_tuple_lst, isT_tuple_rol, isT_tuple_dct, isT_list_non, isT_list_bl, isT_list_int, isT_list_str, isT_list_tup, isT_list_lst, isT_list_rol, isT_list_dct, isT_dict_non, isT_dict_bl, isT_dict_int, isT_dict_str, isT_dict_tup, isT_dict_lst, isT_dict_rol, isT_dict_dct, truQ_non, truQ_bl, truQ_int, truQ_tup, truQ_lst, blQ_bl, lenD_tup, lenD_lst, lenD_rol, lenD_str, tupD_tup, tupD_lst, lstD_tup, lstD_lst, lstD_rol, intD_i, intD_b, boolD_i, boolD_b, ixD_tup, ixD_lst, ixD_rol, slD_lst, slD_tup, intQ_i, appD_1, extD_1, lsQ_own, lsQ_bor, gTp_t, gsCons_c, seqQ_t, seqQ_l, seqQ_r, hideS_fz, hideS_own, hideS_bor, hideS_no, mmQ_ii, atI_0, atI_1, atI_2, List.map_cons, List.map_nil, List.replicate, List.cons_append, List.nil_append, List.append_nil, List.set, List.length_cons, List.length_nil, decide_eq_true_eq, if_true, if_false, Bool.not_true, Bool.not_false, Bool.false_eq_true, and_true, true_and, List.nodup_cons, List.not_mem_nil, not_false_eq_true, List.nodup_nil, List.mem_cons, or_false, List.getD, c])
        exact ⟨(by rw [sizeLine_eq]; omega), hK _ ⟨i + 1, k, o2, _, _, rfl, by omega, h2, rfl, rfl, hy1⟩⟩
      · have c' : (v == 0) = false := by simpa using c
        (try simp only [dSeq, dIfS, dRet, dRetN, dNext, dSet, dSetO, dDrop, dCall, callQ, dCallKw, dCons, dNil, dBor, dsQ, dTup, dLst, dV, dC, slot, dOp, dUn, dCmp, dCmpT, dChain, dChainT, dTru, dAnd, dOr, dNot, dAndV, dOrV, dNotV, dIf, dIsi, dNoO, dSoO, dSl, bodyQ, endsOf, outsOf, lents, putB, lentQ, dAsg, gNm, gsNil, iSeq, iRng, DL.iRng2, iEnm, dLm, dLm0, dPut, dMm, dYes, hQ, isSub, hideE, pick_0, pick_10, pick_210, rep2, kg, dFor, dLc, wipeD, restD, dPar, ixN3_0, ixN3_1, ixN3_2, ex_some, dRaise_1, dHeard_e, List.set_cons_zero, List.set_cons_succ, rdQ_fz, rdQ_own, rdQ_at, rdS_fz, rdS_own, rdS_bor, frzQ_fz, frzQ_own, frzQ_at, frS_fz, frS_own, nmQ_s, nmS_fz, nmS_own, nmS_bor, retQ_fz, retQ_own, retQ_at, rtS_fz, rtS_own, argsOf_at, argsOf_d, argsOf_n, lnS_own, lnS_bor, lnS_fz, reS_o, reS_b, setF_d, setO_own, setO_fz, setO_at, notBor_fz, notBor_own, notBor_no, isOwn_own, isOwn_bor, addD_ii, addD_ss, addD_ll, addD_tt, subD_ii, mulD_ii, mulD_li, mulD_ti, fdivD_ii, modD_ii, powD_ii, negD_i, ltD_ii, leD_ii, gtD_ii, geD_ii, isQ_n, isQ_b, nisQ_n, isN_non, isN_bl, isN_int, isN_str, isN_tup, isN_lst, isN_rol, isN_dct, isT_int_non, isT_int_bl, isT_int_int, isT_int_str, isT_int_tup, isT_int_lst, isT_int_rol, isT_int_dct, isT_bool_non, isT_bool_bl, isT_bool_int, isT_bool_str, isT_bool_tup, isT_bool_lst, isT_bool_rol, isT_bool_dct, isT_str_non, isT_str_bl, isT_str_int, isT_str_str, isT_str_tup, isT_str_lst, isT_str_rol, isT_str_dct, isT_tuple_non, isT_tuple_bl, isT_tuple_int, isT_tuple_str, isT_tuple_tup, isT_tuple_lst, isT_tuple_rol, isT_tuple_dct, isT_list_non, isT_list_bl, isT_list_int, isT_list_str, isT_list_tup, isT_list_lst, isT_list_rol, isT_list_dct, isT_dict_non, isT_dict_bl, isT_dict_int, isT_dict_str, isT_dict_tup, isT_dict_lst, isT_dict_rol, isT_dict_dct, truQ_non, truQ_bl, truQ_int, truQ_tup, truQ_lst, blQ_bl, lenD_tup, lenD_lst, lenD_rol, lenD_str, tupD_tup, tupD_lst, lstD_tup, lstD_lst, lstD_rol, intD_i, intD_b, boolD_i, boolD_b, ixD_tup, ixD_lst, ixD_rol, slD_lst, slD_tup, intQ_i, appD_1, extD_1, lsQ_own, lsQ_bor, gTp_t, gsCons_c, seqQ_t, seqQ_l, seqQ_r, hideS_fz, hideS_own, hideS_bor, hideS_no, mmQ_ii, atI_0, atI_1, atI_2, List.map_cons, List.map_nil, List.replicate, List.cons_append, List.nil_append, List.append_nil, List.set, List.length_cons, List.length_nil, decide_eq_true_eq, if_true, if_false, Bool.not_true, Bool.not_false, Bool.false_eq_true, and_true, true_and, List.nodup_cons, List.not_mem_nil, not_false_eq_true, List.nodup_nil, List.mem_cons, or_false, List.getD, c'])
        exact ⟨(by rw [sizeLine_eq]; omega), hK _ ⟨i + 1, k, o2, _, _, rfl, by omega, h2, rfl, rfl, hy2⟩⟩
end K01

set_option Elab.async false
set_option linter.all false
set_option maxRecDepth 100000
set_option maxHeartbeats 400000
namespace K01
open PySem PySem.Spec PyProof.Rows L2 LamX NdefX DL
theorem Y.tupOf {m : Nat} {ds : List D} (hl : ds.length ≤ sizeLine) (h : ∀ d ∈ ds, Y m d) : Y (m + 1) (.tup ds) := ⟨hl, h⟩
theorem Y.lstOf {m : Nat} {ds : List D} (hl : ds.length ≤ sizeLine) (h : ∀ d ∈ ds, Y m d) : Y (m + 1) (.lst ds) := ⟨hl, h⟩
theorem Yint {m : Nat} {x : Int} : Y m (.int x) := by cases m <;> trivial
theorem w_bent {o : OC} {row odds : List D} {m : Nat} {Q : Rv → List OC → Prop} {ED : Nat → D → Prop} (hJ : J o) (hr0 : row ≠ []) (hr : ∀ d ∈ row, Y m d) (hrl : row.length ≤ 1000) (ho0 : odds ≠ []) (ho : ∀ d ∈ odds, Y m d) (hol : odds.length ≤ 1000)
    (hQ : ∀ ds o', J o' → (∀ d ∈ ds, Y (m + 2) d) → ds.length = 18 → Q (.own (.lst ds)) [o']) : sp_bent [.bor o, .fz (.tup row), .fz (.lst odds)] Q ED := by
  refine ⟨rfl, ?_⟩
  (try simp only [dSeq, dIfS, dRet, dRetN, dNext, dSet, dSetO, dDrop, dCall, callQ, dCallKw, dCons, dNil, dBor, dsQ, dTup, dLst, dV, dC, slot, dOp, dUn, dCmp, dCmpT, dChain, dChainT, dTru, dAnd, dOr, dNot, dAndV, dOrV, dNotV, dIf, dIsi, dNoO, dSoO, dSl, bodyQ, endsOf, outsOf, lents, putB, lentQ, dAsg, gNm, gsNil, iSeq, iRng, DL.iRng2, iEnm, dLm, dLm0, dPut, dMm, dYes, hQ, isSub, hideE, pick_0, pick_10, pick_210, rep2, kg, dFor, dLc, wipeD, restD, dPar, ixN3_0, ixN3_1, ixN3_2, ex_some, dRaise_1, dHeard_e, List.set_cons_zero, List.set_cons_succ, rdQ_fz, rdQ_own, rdQ_at, rdS_fz, rdS_own, rdS_bor, frzQ_fz, frzQ_own, frzQ_at, frS_fz, frS_own, nmQ_s, nmS_fz, nmS_own, nmS_bor, retQ_fz, retQ_own, retQ_at, rtS_fz, rtS_own, argsOf_at, argsOf_d, argsOf_n, lnS_own, lnS_bor, lnS_fz, reS_o, reS_b, setF_d, setO_own, setO_fz, setO_at, notBor_fz, notBor_own, notBor_no, isOwn_own, isOwn_bor, addD_ii, addD_ss, addD_ll, addD_tt, subD_ii, mulD_ii, mulD_li, mulD_ti, fdivD_ii, modD_ii, powD_ii, negD_i, ltD_ii, leD_ii, gtD_ii, geD_ii, isQ_n, isQ_b, nisQ_n, isN_non, isN_bl, isN_int, isN_str, isN_tup, isN_lst, isN_rol, isN_dct, isT_int_non, isT_int_bl, isT_int_int, isT_int_str, isT_int_tup, isT_int_lst, isT_int_rol, isT_int_dct, isT_bool_non, isT_bool_bl, isT_bool_int, isT_bool_str, isT_bool_tup, isT_bool_lst, isT_bool_rol, isT_bool_dct, isT_str_non, isT_str_bl, isT_str_int, isT_str_str, isT_str_tup, isT_str_lst, isT_str_rol, isT_str_dct, isT_tuple_non, isT_tuple_bl, isT_tuple_int, isT_tuple_str, isT_tuple_tup, isT_tuple_lst, isT_tuple_rol, isT_tuple_dct, isT_list_non, isT_list_bl, isT_list_int, isT_list_str, isT_list_tup, isT_list_lst, isT_list_rol, isT_list_dct, isT_dict_non, isT_dict_bl, isT_dict_int, isT_dict_str, isT_dict_tup, isT_dict_lst, isT_dict_rol, isT_dict_dct, truQ_non, truQ_bl, truQ_int, truQ_tup, truQ_lst, blQ_bl, lenD_tup, lenD_lst, lenD_rol, lenD_str, tupD_tup, tupD_lst, lstD_tup, lstD_lst, lstD_rol, intD_i, intD_b, boolD_i, boolD_b, ixD_tup, ixD_lst, ixD_rol, slD_lst, slD_tup, intQ_i, appD_1, extD_1, lsQ_own, lsQ_bor, gTp_t, gsCons_c, seqQ_t, seqQ_l, seqQ_r, hideS_fz, hideS_own, hideS_bor, hideS_no, mmQ_ii, atI_0, atI_1, atI_2, List.map_cons, List.map_nil, List.replicate, List.cons_append, List.nil_append, List.append_nil, List.set, List.length_cons, List.length_nil, decide_eq_true_eq, if_true, if_false, Bool.not_true, Bool.not_false, Bool.false_eq_true, and_true, true_and, List.nodup_cons, List.not_mem_nil, not_false_eq_true, List.nodup_nil, List.mem_cons, or_false, List.getD, td_bent])
  refine ⟨(by rw [sizeLine_eq]; omega), ⟨by decide, by decide⟩, ?_⟩
  rw [rngD_0]
  refine forL_ind (Inv := fun rest η => ∃ i k o' made s4 s5 s6, rest = rngs i k ∧ i + k = 14 ∧ J o' ∧ η = [.bor o', .fz (.tup row), .fz (.lst odds), .own (.lst made), s4, s5, s6] ∧ notBor s4 = true ∧ notBor s5 = true ∧ notBor s6 = true ∧ made.length = i ∧ ∀ d ∈ made, Y (m + 1) d) ?_ ?_ _ _
    ⟨0, 14, o, [], .no, .no, .no, rfl, rfl, hJ, rfl, rfl, rfl, rfl, rfl, fun d hd => by cases hd⟩
  · rintro η ⟨i, k, o', made, s4, s5, s6, r1, r2, hJ', rfl, b4, b5, b6, r3, r4⟩
    cases k with
    | succ k => cases r1
    | zero =>
      (try simp only [dSeq, dIfS, dRet, dRetN, dNext, dSet, dSetO, dDrop, dCall, callQ, dCallKw, dCons, dNil, dBor, dsQ, dTup, dLst, dV, dC, slot, dOp, dUn, dCmp, dCmpT, dChain, dChainT, dTru, dAnd, dOr, dNot, dAndV, dOrV, dNotV, dIf, dIsi, dNoO, dSoO, dSl, bodyQ, endsOf, outsOf, lents, putB, lentQ, dAsg, gNm, gsNil, iSeq, iRng, DL.iRng2, iEnm, dLm, dLm0, dPut, dMm, dYes, hQ, isSub, hideE, pick_0, pick_10, pick_210, rep2, kg, dFor, dLc, wipeD, restD, dPar, ixN3_0, ixN3_1, ixN3_2, ex_some, dRaise_1, dHeard_e, List.set_cons_zero, List.set_cons_succ, rdQ_fz, rdQ_own, rdQ_at, rdS_fz, rdS_own, rdS_bor, frzQ_fz, frzQ_own, frzQ_at, frS_fz, frS_own, nmQ_s, nmS_fz, nmS_own, nmS_bor, retQ_fz, retQ_own, retQ_at, rtS_fz, rtS_own, argsOf_at, argsOf_d, argsOf_n, lnS_own, lnS_bor, lnS_fz, reS_o, reS_b, setF_d, setO_own, setO_fz, setO_at, notBor_fz, notBor_own, notBor_no, isOwn_own, isOwn_bor, addD_ii, addD_ss, addD_ll, addD_tt, subD_ii, mulD_ii, mulD_li, mulD_ti, fdivD_ii, modD_ii, powD_ii, negD_i, ltD_ii, leD_ii, gtD_ii, geD_ii, isQ_n, isQ_b, nisQ_n, isN_non, isN_bl, isN_int, isN_str, isN_tup, isN_lst, isN_rol, isN_dct, isT_int_non, isT_int_bl, isT_int_int, isT_int_str, isT_int_tup, isT_int_lst, isT_int_rol, isT_int_dct, isT_bool_non, isT_bool_bl, isT_bool_int, isT_bool_str, isT_bool_tup, isT_bool_lst, isT_bool_rol, isT_bool_dct, isT_str_non, isT_str_bl, isT_str_int, isT_str_str, isT_str_tup, isT_str_lst, isT_str_rol, isT_str_dct, isT_tuple_non, isT_tuple_bl, isT_tuple_int, isT_tuple_str, isT_tuple_tup, isT_tuple_lst, isT_tuple_rol, isT_tuple_dct, isT_list_non, isT_list_bl, isT_list_int, isT_list_str, isT_list_tup, isT_list_lst, isT_list_rol, isT_list_dct, isT_dict_non, isT_dict_bl, isT_dict_int, isT_dict_str, isT_dict_tup, isT_dict_lst, isT_dict_rol, isT_dict_dct, truQ_non, truQ_bl, truQ_int, truQ_tup, truQ_lst, blQ_bl, lenD_tup, lenD_lst, lenD_rol, lenD_str, tupD_tup, tupD_lst, lstD_tup, lstD_lst, lstD_rol, intD_i, intD_b, boolD_i, boolD_b, ixD_tup, ixD_lst, ixD_rol, slD_lst, slD_tup, intQ_i, appD_1, extD_1, lsQ_own, lsQ_bor, gTp_t, gsCons_c, seqQ_t, seqQ_l, seqQ_r, hideS_fz, hideS_own, hideS_bor, hideS_no, mmQ_ii, atI_0, atI_1, atI_2, List.map_cons, List.map_nil, List.replicate, List.cons_append, List.nil_append, List.append_nil, List.set, List.length_cons, List.length_nil, decide_eq_true_eq, if_true, if_false, Bool.not_true, Bool.not_false, Bool.false_eq_true, and_true, true_and, List.nodup_cons, List.not_mem_nil, not_false_eq_true, List.nodup_nil, List.mem_cons, or_false, List.getD])
      have l1 : (row ++ [D.int 1]).length ≤ sizeLine := by simp [sizeLine_eq]; omega
      have e1 : ∀ d ∈ row ++ [D.int 1], Y m d := fun d hd => by
        rcases List.mem_append.mp hd with hd | hd
        · exact hr d hd
        · rw [List.mem_singleton] at hd; rw [hd]; exact Yint
      have fin : Q (.own (.lst (made ++ [.tup (row ++ [.int 1]), .tup (cutD row none (some (-1))), .lst row, .tup [.tup row]]))) [o'] := by
        have cl : (cutD row none (some (-1))).length ≤ row.length := by
          unfold DL.cutD
          rw [List.length_take, List.length_drop]; omega
        have cm : ∀ d ∈ cutD row none (some (-1)), d ∈ row := fun d hd => List.mem_of_mem_drop (List.mem_of_mem_take hd)
        refine hQ _ _ hJ' (fun d hd => ?_) (by simp; omega)
        rcases List.mem_append.mp hd with hd | hd
        · exact (r4 d hd).up
        · simp only [List.mem_cons, List.not_mem_nil, or_false] at hd
          rcases hd with rfl | rfl | rfl | rfl
          · exact (Y.tupOf l1 e1).up
          · exact (Y.tupOf (by rw [sizeLine_eq]; omega) fun d hd => hr d (cm d hd)).up
          · exact (Y.lstOf (by rw [sizeLine_eq]; omega) hr).up
          · exact Y.tupOf (ln3 (by show 1 ≤ 1000; decide)) fun d hd => by
              rw [List.mem_singleton] at hd
              rw [hd]
              exact Y.tupOf (by rw [sizeLine_eq]; omega) hr
      exact ⟨(by rw [sizeLine_eq]; omega), (by rw [sizeLine_eq]; omega), (by rw [sizeLine_eq]; omega), (by rw [sizeLine_eq]; omega), (by rw [sizeLine_eq]; omega), fin⟩
  · rintro d rest η K ⟨i, k, o', made, s4, s5, s6, r1, r2, hJ', rfl, b4, b5, b6, r3, r4⟩ hK
    cases k with
    | zero => cases r1
    | succ k =>
      obtain ⟨rfl, rfl⟩ := List.cons.inj r1
      (try simp only [dSeq, dIfS, dRet, dRetN, dNext, dSet, dSetO, dDrop, dCall, callQ, dCallKw, dCons, dNil, dBor, dsQ, dTup, dLst, dV, dC, slot, dOp, dUn, dCmp, dCmpT, dChain, dChainT, dTru, dAnd, dOr, dNot, dAndV, dOrV, dNotV, dIf, dIsi, dNoO, dSoO, dSl, bodyQ, endsOf, outsOf, lents, putB, lentQ, dAsg, gNm, gsNil, iSeq, iRng, DL.iRng2, iEnm, dLm, dLm0, dPut, dMm, dYes, hQ, isSub, hideE, pick_0, pick_10, pick_210, rep2, kg, dFor, dLc, wipeD, restD, dPar, ixN3_0, ixN3_1, ixN3_2, ex_some, dRaise_1, dHeard_e, List.set_cons_zero, List.set_cons_succ, rdQ_fz, rdQ_own, rdQ_at, rdS_fz, rdS_own, rdS_bor, frzQ_fz, frzQ_own, frzQ_at, frS_fz, frS_own, nmQ_s, nmS_fz, nmS_own, nmS_bor, retQ_fz, retQ_own, retQ_at, rtS_fz, rtS_own, argsOf_at, argsOf_d, argsOf_n, lnS_own, lnS_bor, lnS_fz, reS_o, reS_b, setF_d, setO_own, setO_fz, setO_at, notBor_fz, notBor_own, notBor_no, isOwn_own, isOwn_bor, addD_ii, addD_ss, addD_ll, addD_tt, subD_ii, mulD_ii, mulD_li, mulD_ti, fdivD_ii, modD_ii, powD_ii, negD_i, ltD_ii, leD_ii, gtD_ii, geD_ii, isQ_n, isQ_b, nisQ_n, isN_non, isN_bl, isN_int, isN_str, isN_tup, isN_lst, isN_rol, isN_dct, isT_int_non, isT_int_bl, isT_int_int, isT_int_str, isT_int_tup, isT_int_lst, isT_int_rol, isT_int_dct, isT_bool_non, isT_bool_bl, isT_bool_int, isT_bool_str, isT_bool_tup, isT_bool_lst, isT_bool_rol, isT_bool_dct, isT_str_non, isT_str_bl, isT_str_int, isT_str_str, isT_str_tup, isT_str_lst, isT_str_rol, isT_str_dct, isT_tuple_non, isT_tuple_bl, isT_tuple_int, isT_tuple_str, isT_tuple_tup, isT_tuple_lst, isT_tuple_rol, isT_tuple_dct, isT_list_non, isT_list_bl, isT_list_int, isT_list_str, isT_list_tup, isT_list_lst, isT_list_rol, isT_list_dct, isT_dict_non, isT_dict_bl, isT_dict_int, isT_dict_str, isT_dict_tup, isT_dict_lst, isT_dict_rol, isT_dict_dct, truQ_non, truQ_bl, truQ_int, truQ_tup, truQ_lst, blQ_bl, lenD_tup, lenD_lst, lenD_rol, lenD_str, tupD_tup, tupD_lst, lstD_tup, lstD_lst, lstD_rol, intD_i, intD_b, boolD_i, boolD_b, ixD_tup, ixD_lst, ixD_rol, slD_lst, slD_tup, intQ_i, appD_1, extD_1, lsQ_own, lsQ_bor, gTp_t, gsCons_c, seqQ_t, seqQ_l, seqQ_r, hideS_fz, hideS_own, hideS_bor, hideS_no, mmQ_ii, atI_0, atI_1, atI_2, List.map_cons, List.map_nil, List.replicate, List.cons_append, List.nil_append, List.append_nil, List.set, List.length_cons, List.length_nil, decide_eq_true_eq, if_true, if_false, Bool.not_true, Bool.not_false, Bool.false_eq_true, and_true, true_and, List.nodup_cons, List.not_mem_nil, not_false_eq_true, List.nodup_nil, List.mem_cons, or_false, List.getD, b4, b5, b6])
      refine ⟨(by simp [lents, slot, Sl.isOwn]), w_take hJ' (by decide) (by decide) fun v o2 h2 v0 v1 => ?_⟩
      (try simp only [dSeq, dIfS, dRet, dRetN, dNext, dSet, dSetO, dDrop, dCall, callQ, dCallKw, dCons, dNil, dBor, dsQ, dTup, dLst, dV, dC, slot, dOp, dUn, dCmp, dCmpT, dChain, dChainT, dTru, dAnd, dOr, dNot, dAndV, dOrV, dNotV, dIf, dIsi, dNoO, dSoO, dSl, bodyQ, endsOf, outsOf, lents, putB, lentQ, dAsg, gNm, gsNil, iSeq, iRng, DL.iRng2, iEnm, dLm, dLm0, dPut, dMm, dYes, hQ, isSub, hideE, pick_0, pick_10, pick_210, rep2, kg, dFor, dLc, wipeD, restD, dPar, ixN3_0, ixN3_1, ixN3_2, ex_some, dRaise_1, dHeard_e, List.set_cons_zero, List.set_cons_succ, rdQ_fz, rdQ_own, rdQ_at, rdS_fz, rdS_own, rdS_bor, frzQ_fz, frzQ_own, frzQ_at, frS_fz, frS_own, nmQ_s, nmS_fz, nmS_own, nmS_bor, retQ_fz, retQ_own, retQ_at, rtS_fz, rtS_own, argsOf_at, argsOf_d, argsOf_n, lnS_own, lnS_bor, lnS_fz, reS_o, reS_b, setF_d, setO_own, setO_fz, setO_at, notBor_fz, notBor_own, notBor_no, isOwn_own, isOwn_bor, addD_ii, addD_ss, addD_ll, addD_tt, subD_ii, mulD_ii, mulD_li, mulD_ti, fdivD_ii, modD_ii, powD_ii, negD_i, ltD_ii, leD_ii, gtD_ii, geD_ii, isQ_n, isQ_b, nisQ_n, isN_non, isN_bl, isN_int, isN_str, isN_tup, isN_lst, isN_rol, isN_dct, isT_int_non, isT_int_bl, isT_int_int, isT_int_str, isT_int_tup, isT_int_lst, isT_int_rol, isT_int_dct, isT_bool_non, isT_bool_bl, isT_bool_int, isT_bool_str, isT_bool_tup, isT_bool_lst, isT_bool_rol, isT_bool_dct, isT_str_non, isT_str_bl, isT_str_int, isT_str_str, isT_str_tup, isT_str_lst, isT_str_rol, isT_str_dct, isT_tuple_non, isT_tuple_bl, isT_tuple_int, isT_tuple_str, isT_tuple_tup, isT_tuple_lst, isT_tuple_rol, isT_tuple_dct, isT_list_non, isT_list_bl, isT_list_int, isT_list_str, isT_list_tup, isT_list_lst, isT_list_rol, isT_list_dct, isT_dict_non, isT_dict_bl, isT_dict_int, isT_dict_str, isT_dict_tup, isT_dict_lst, isT_dict_rol, isT_dict_dct, truQ_non, truQ_bl, truQ_int, truQ_tup, truQ_lst, blQ_bl, lenD_tup, lenD_lst, lenD_rol, lenD_str, tupD_tup, tupD_lst, lstD_tup, lstD_lst, lstD_rol, intD_i, intD_b, boolD_i, boolD_b, ixD_tup, ixD_lst, ixD_rol, slD_lst, slD_tup, intQ_i, appD_1, extD_1, lsQ_own, lsQ_bor, gTp_t, gsCons_c, seqQ_t, seqQ_l, seqQ_r, hideS_fz, hideS_own, hideS_bor, hideS_no, mmQ_ii, atI_0, atI_1, atI_2, List.map_cons, List.map_nil, List.replicate, List.cons_append, List.nil_append, List.append_nil, List.set, List.length_cons, List.length_nil, decide_eq_true_eq, if_true, if_false, Bool.not_true, Bool.not_false, Bool.false_eq_true, and_true, true_and, List.nodup_cons, List.not_mem_nil, not_false_eq_true, List.nodup_nil, List.mem_cons, or_false, List.getD])
      refine ⟨⟨by omega, by omega⟩, ?_⟩
      rw [rngD_0]
      refine forL_ind (Inv := fun rest η => ∃ j q o3 some s6, rest = rngs j q ∧ J o3 ∧ η = [.bor o3, .fz (.tup row), .fz (.lst odds), .own (.lst made), .fz (.int (i : Nat)), .own (.lst some), s6] ∧ notBor s6 = true ∧ some.length = row.length ∧ ∀ d ∈ some, Y m d) ?_ ?_ _ _
        ⟨0, _, o2, row, s6, rfl, h2, rfl, b6, rfl, hr⟩
      · rintro η ⟨j, q, o3, some, s6, t1, h3, rfl, b6, t2, t3⟩
        cases q with
        | succ q => cases t1
        | zero =>
          (try simp only [dSeq, dIfS, dRet, dRetN, dNext, dSet, dSetO, dDrop, dCall, callQ, dCallKw, dCons, dNil, dBor, dsQ, dTup, dLst, dV, dC, slot, dOp, dUn, dCmp, dCmpT, dChain, dChainT, dTru, dAnd, dOr, dNot, dAndV, dOrV, dNotV, dIf, dIsi, dNoO, dSoO, dSl, bodyQ, endsOf, outsOf, lents, putB, lentQ, dAsg, gNm, gsNil, iSeq, iRng, DL.iRng2, iEnm, dLm, dLm0, dPut, dMm, dYes, hQ, isSub, hideE, pick_0, pick_10, pick_210, rep2, kg, dFor, dLc, wipeD, restD, dPar, ixN3_0, ixN3_1, ixN3_2, ex_some, dRaise_1, dHeard_e, List.set_cons_zero, List.set_cons_succ, rdQ_fz, rdQ_own, rdQ_at, rdS_fz, rdS_own, rdS_bor, frzQ_fz, frzQ_own, frzQ_at, frS_fz, frS_own, nmQ_s, nmS_fz, nmS_own, nmS_bor, retQ_fz, retQ_own, retQ_at, rtS_fz, rtS_own, argsOf_at, argsOf_d, argsOf_n, lnS_own, lnS_bor, lnS_fz, reS_o, reS_b, setF_d, setO_own, setO_fz, setO_at, notBor_fz, notBor_own, notBor_no, isOwn_own, isOwn_bor, addD_ii, addD_ss, addD_ll, addD_tt, subD_ii, mulD_ii, mulD_li, mulD_ti, fdivD_ii, modD_ii, powD_ii, negD_i, ltD_ii, leD_ii, gtD_ii, geD_ii, isQ_n, isQ_b, nisQ_n, isN_non, isN_bl, isN_int, isN_str, isN_tup, isN_lst, isN_rol, isN_dct, isT_int_non, isT_int_bl, isT_int_int, isT_int_str, isT_int_tup, isT_int_lst, isT_int_rol, isT_int_dct, isT_bool_non, isT_bool_bl, isT_bool_int, isT_bool_str, isT_bool_tup, isT_bool_lst, isT_bool_rol, isT_bool_dct, isT_str_non, isT_str_bl, isT_str_int, isT_str_str, isT_str_tup, isT_str_lst, isT_str_rol, isT_str_dct, isT_tuple_non, isT_tuple_bl, isT_tuple_int, isT_tuple_str, isT_tuple_tup, isT_tuple_lst, isT_tuple_rol, isT_tuple_dct, isT_list_non, isT_list_bl, isT_list_int, isT_list_str, isT_list_tup, isT_list_lst, isT_list_rol, isT_list_dct, isT_dict_non, isT_dict_bl, isT_dict_int, isT_dict_str, isT_dict_tup, isT_dict_lst, isT_dict_rol, isT_dict_dct, truQ_non, truQ_bl, truQ_int, truQ_tup, truQ_lst, blQ_bl, lenD_tup, lenD_lst, lenD_rol, lenD_str, tupD_tup, tupD_lst, lstD_tup, lstD_lst, lstD_rol, intD_i, intD_b, boolD_i, boolD_b, ixD_tup, ixD_lst, ixD_rol, slD_lst, slD_tup, intQ_i, appD_1, extD_1, lsQ_own, lsQ_bor, gTp_t, gsCons_c, seqQ_t, seqQ_l, seqQ_r, hideS_fz, hideS_own, hideS_bor, hideS_no, mmQ_ii, atI_0, atI_1, atI_2, List.map_cons, List.map_nil, List.replicate, List.cons_append, List.nil_append, List.append_nil, List.set, List.length_cons, List.length_nil, decide_eq_true_eq, if_true, if_false, Bool.not_true, Bool.not_false, Bool.false_eq_true, and_true, true_and, List.nodup_cons, List.not_mem_nil, not_false_eq_true, List.nodup_nil, List.mem_cons, or_false, List.getD])
          refine ⟨by rw [sizeLine_eq]; omega, hK _ ⟨i + 1, k, o3, _, _, _, _, rfl, by omega, h3, rfl, rfl, rfl, b6, by simp [r3], fun d hd => ?_⟩⟩
          rcases List.mem_append.mp hd with hd | hd
          · exact r4 d hd
          · rw [List.mem_singleton] at hd
            rw [hd]
            exact Y.tupOf (by rw [sizeLine_eq]; omega) t3
      · rintro d rest η K2 ⟨j, q, o3, some, s6, t1, h3, rfl, b6, t2, t3⟩ hK2
        cases q with
        | zero => cases t1
        | succ q =>
          obtain ⟨rfl, rfl⟩ := List.cons.inj t1
          (try simp only [dSeq, dIfS, dRet, dRetN, dNext, dSet, dSetO, dDrop, dCall, callQ, dCallKw, dCons, dNil, dBor, dsQ, dTup, dLst, dV, dC, slot, dOp, dUn, dCmp, dCmpT, dChain, dChainT, dTru, dAnd, dOr, dNot, dAndV, dOrV, dNotV, dIf, dIsi, dNoO, dSoO, dSl, bodyQ, endsOf, outsOf, lents, putB, lentQ, dAsg, gNm, gsNil, iSeq, iRng, DL.iRng2, iEnm, dLm, dLm0, dPut, dMm, dYes, hQ, isSub, hideE, pick_0, pick_10, pick_210, rep2, kg, dFor, dLc, wipeD, restD, dPar, ixN3_0, ixN3_1, ixN3_2, ex_some, dRaise_1, dHeard_e, List.set_cons_zero, List.set_cons_succ, rdQ_fz, rdQ_own, rdQ_at, rdS_fz, rdS_own, rdS_bor, frzQ_fz, frzQ_own, frzQ_at, frS_fz, frS_own, nmQ_s, nmS_fz, nmS_own, nmS_bor, retQ_fz, retQ_own, retQ_at, rtS_fz, rtS_own, argsOf_at, argsOf_d, argsOf_n, lnS_own, lnS_bor, lnS_fz, reS_o, reS_b, setF_d, setO_own, setO_fz, setO_at, notBor_fz, notBor_own, notBor_no, isOwn_own, isOwn_bor, addD_ii, addD_ss, addD_ll, addD_tt, subD_ii, mulD_ii, mulD_li, mulD_ti, fdivD_ii, modD_ii, powD_ii, negD_i, ltD_ii, leD_ii, gtD_ii, geD_ii, isQ_n, isQ_b, nisQ_n, isN_non, isN_bl, isN_int, isN_str, isN_tup, isN_lst, isN_rol, isN_dct, isT_int_non, isT_int_bl, isT_int_int, isT_int_str, isT_int_tup, isT_int_lst, isT_int_rol, isT_int_dct, isT_bool_non, isT_bool_bl, isT_bool_int, isT_bool_str, isT_bool_tup, isT_bool_lst, isT_bool_rol, isT_bool_dct, isT_str_non, isT_str_bl, isT_str_int, isT_str_str, isT_str_tup, isT_str_lst, isT_str_rol, isT_str_dct, isT_tuple_non, isT_tuple_bl, isT_tuple_int, isT_tuple_str, isT_tuple_tup, isT_tuple_lst, isT_tuple_rol, isT_tuple_dct, isT_list_non, isT_list_bl, isT_list_int, isT_list_str, isT_list_tup, isT_list_lst, isT_list_rol, isT_list_dct, isT_dict_non, isT_dict_bl, isT_dict_int, isT_dict_str, isT_dict_tup, isT_dict_lst, isT_dict_rol, isT_dict_dct, truQ_non, truQ_bl, truQ_int, truQ_tup, truQ_lst, blQ_bl, lenD_tup, lenD_lst, lenD_rol, lenD_str, tupD_tup, tupD_lst, lstD_tup, lstD_lst, lstD_rol, intD_i, intD_b, boolD_i, boolD_b, ixD_tup, ixD_lst, ixD_rol, slD_lst, slD_tup, intQ_i, appD_1, extD_1, lsQ_own, lsQ_bor, gTp_t, gsCons_c, seqQ_t, seqQ_l, seqQ_r, hideS_fz, hideS_own, hideS_bor, hideS_no, mmQ_ii, atI_0, atI_1, atI_2, List.map_cons, List.map_nil, List.replicate, List.cons_append, List.nil_append, List.append_nil, List.set, List.length_cons, List.length_nil, decide_eq_true_eq, if_true, if_false, Bool.not_true, Bool.not_false, Bool.false_eq_true, and_true, true_and, List.nodup_cons, List.not_mem_nil, not_false_eq_true, List.nodup_nil, List.mem_cons, or_false, List.getD, b6])
          refine ⟨(by simp [lents, slot, Sl.isOwn]), w_oneL h3 ho0 (by omega) fun e he o4 h4 => ?_⟩
          (try simp only [dSeq, dIfS, dRet, dRetN, dNext, dSet, dSetO, dDrop, dCall, callQ, dCallKw, dCons, dNil, dBor, dsQ, dTup, dLst, dV, dC, slot, dOp, dUn, dCmp, dCmpT, dChain, dChainT, dTru, dAnd, dOr, dNot, dAndV, dOrV, dNotV, dIf, dIsi, dNoO, dSoO, dSl, bodyQ, endsOf, outsOf, lents, putB, lentQ, dAsg, gNm, gsNil, iSeq, iRng, DL.iRng2, iEnm, dLm, dLm0, dPut, dMm, dYes, hQ, isSub, hideE, pick_0, pick_10, pick_210, rep2, kg, dFor, dLc, wipeD, restD, dPar, ixN3_0, ixN3_1, ixN3_2, ex_some, dRaise_1, dHeard_e, List.set_cons_zero, List.set_cons_succ, rdQ_fz, rdQ_own, rdQ_at, rdS_fz, rdS_own, rdS_bor, frzQ_fz, frzQ_own, frzQ_at, frS_fz, frS_own, nmQ_s, nmS_fz, nmS_own, nmS_bor, retQ_fz, retQ_own, retQ_at, rtS_fz, rtS_own, argsOf_at, argsOf_d, argsOf_n, lnS_own, lnS_bor, lnS_fz, reS_o, reS_b, setF_d, setO_own, setO_fz, setO_at, notBor_fz, notBor_own, notBor_no, isOwn_own, isOwn_bor, addD_ii, addD_ss, addD_ll, addD_tt, subD_ii, mulD_ii, mulD_li, mulD_ti, fdivD_ii, modD_ii, powD_ii, negD_i, ltD_ii, leD_ii, gtD_ii, geD_ii, isQ_n, isQ_b, nisQ_n, isN_non, isN_bl, isN_int, isN_str, isN_tup, isN_lst, isN_rol, isN_dct, isT_int_non, isT_int_bl, isT_int_int, isT_int_str, isT_int_tup, isT_int_lst, isT_int_rol, isT_int_dct, isT_bool_non, isT_bool_bl, isT_bool_int, isT_bool_str, isT_bool_tup, isT_bool_lst, isT_bool_rol, isT_bool_dct, isT_str_non, isT_str_bl, isT_str_int, isT_str_str, isT_str_tup, isT_str_lst, isT_str_rol, isT_str_dct, isT_tuple_non, isT_tuple_bl, isT_tuple_int, isT_tuple_str, isT_tuple_tup, isT_tuple_lst, isT_tuple_rol, isT_tuple_dct, isT_list_non, isT_list_bl, isT_list_int, isT_list_str, isT_list_tup, isT_list_lst, isT_list_rol, isT_list_dct, isT_dict_non, isT_dict_bl, isT_dict_int, isT_dict_str, isT_dict_tup, isT_dict_lst, isT_dict_rol, isT_dict_dct, truQ_non, truQ_bl, truQ_int, truQ_tup, truQ_lst, blQ_bl, lenD_tup, lenD_lst, lenD_rol, lenD_str, tupD_tup, tupD_lst, lstD_tup, lstD_lst, lstD_rol, intD_i, intD_b, boolD_i, boolD_b, ixD_tup, ixD_lst, ixD_rol, slD_lst, slD_tup, intQ_i, appD_1, extD_1, lsQ_own, lsQ_bor, gTp_t, gsCons_c, seqQ_t, seqQ_l, seqQ_r, hideS_fz, hideS_own, hideS_bor, hideS_no, mmQ_ii, atI_0, atI_1, atI_2, List.map_cons, List.map_nil, List.replicate, List.cons_append, List.nil_append, List.append_nil, List.set, List.length_cons, List.length_nil, decide_eq_true_eq, if_true, if_false, Bool.not_true, Bool.not_false, Bool.false_eq_true, and_true, true_and, List.nodup_cons, List.not_mem_nil, not_false_eq_true, List.nodup_nil, List.mem_cons, or_false, List.getD])
          have hp : 0 < row.length := List.length_pos_iff.mpr hr0
          refine ⟨(by simp [lents, slot, Sl.isOwn]), w_take h4 (by omega) (lg (by omega) (by omega)) fun u o5 h5 u0 u1 => ?_⟩
          (try simp only [dSeq, dIfS, dRet, dRetN, dNext, dSet, dSetO, dDrop, dCall, callQ, dCallKw, dCons, dNil, dBor, dsQ, dTup, dLst, dV, dC, slot, dOp, dUn, dCmp, dCmpT, dChain, dChainT, dTru, dAnd, dOr, dNot, dAndV, dOrV, dNotV, dIf, dIsi, dNoO, dSoO, dSl, bodyQ, endsOf, outsOf, lents, putB, lentQ, dAsg, gNm, gsNil, iSeq, iRng, DL.iRng2, iEnm, dLm, dLm0, dPut, dMm, dYes, hQ, isSub, hideE, pick_0, pick_10, pick_210, rep2, kg, dFor, dLc, wipeD, restD, dPar, ixN3_0, ixN3_1, ixN3_2, ex_some, dRaise_1, dHeard_e, List.set_cons_zero, List.set_cons_succ, rdQ_fz, rdQ_own, rdQ_at, rdS_fz, rdS_own, rdS_bor, frzQ_fz, frzQ_own, frzQ_at, frS_fz, frS_own, nmQ_s, nmS_fz, nmS_own, nmS_bor, retQ_fz, retQ_own, retQ_at, rtS_fz, rtS_own, argsOf_at, argsOf_d, argsOf_n, lnS_own, lnS_bor, lnS_fz, reS_o, reS_b, setF_d, setO_own, setO_fz, setO_at, notBor_fz, notBor_own, notBor_no, isOwn_own, isOwn_bor, addD_ii, addD_ss, addD_ll, addD_tt, subD_ii, mulD_ii, mulD_li, mulD_ti, fdivD_ii, modD_ii, powD_ii, negD_i, ltD_ii, leD_ii, gtD_ii, geD_ii, isQ_n, isQ_b, nisQ_n, isN_non, isN_bl, isN_int, isN_str, isN_tup, isN_lst, isN_rol, isN_dct, isT_int_non, isT_int_bl, isT_int_int, isT_int_str, isT_int_tup, isT_int_lst, isT_int_rol, isT_int_dct, isT_bool_non, isT_bool_bl, isT_bool_int, isT_bool_str, isT_bool_tup, isT_bool_lst, isT_bool_rol, isT_bool_dct, isT_str_non, isT_str_bl, isT_str_int, isT_str_str, isT_str_tup, isT_str_lst, isT_str_rol, isT_str_dct, isT_tuple_non, isT_tuple_bl, isT_tuple_int, isT_tuple_str, isT_tuple_tup, isT_tuple_lst, isT_tuple_rol, isT_tuple_dct, isT_list_non, isT_list_bl, isT_list_int, isT_list_str, isT_list_tup, isT_list_lst, isT_list_rol, isT_list_dct, isT_dict_non, isT_dict_bl, isT_dict_int, isT_dict_str, isT_dict_tup, isT_dict_lst, isT_dict_rol, isT_dict_dct, truQ_non, truQ_bl, truQ_int, truQ_tup, truQ_lst, blQ_bl, lenD_tup, lenD_lst, lenD_rol, lenD_str, tupD_tup, tupD_lst, lstD_tup, lstD_lst, lstD_rol, intD_i, intD_b, boolD_i, boolD_b, ixD_tup, ixD_lst, ixD_rol, slD_lst, slD_tup, intQ_i, appD_1, extD_1, lsQ_own, lsQ_bor, gTp_t, gsCons_c, seqQ_t, seqQ_l, seqQ_r, hideS_fz, hideS_own, hideS_bor, hideS_no, mmQ_ii, atI_0, atI_1, atI_2, List.map_cons, List.map_nil, List.replicate, List.cons_append, List.nil_append, List.append_nil, List.set, List.length_cons, List.length_nil, decide_eq_true_eq, if_true, if_false, Bool.not_true, Bool.not_false, Bool.false_eq_true, and_true, true_and, List.nodup_cons, List.not_mem_nil, not_false_eq_true, List.nodup_nil, List.mem_cons, or_false, List.getD])
          refine ⟨_, ixN_nat u0 (by omega), hK2 _ ⟨j + 1, q, o5, _, _, rfl, h5, rfl, rfl, by simp [t2], fun d hd => ?_⟩⟩
          rcases List.mem_or_eq_of_mem_set hd with hd | hd
          · exact t3 d hd
          · rw [hd]; exact ho e he
theorem Ynon {m : Nat} : Y m .non := by cases m <;> trivial
theorem Ybo {m : Nat} {b : Bool} : Y m (.bl b) := by cases m <;> trivial
theorem Ystr {m : Nat} {s : Str} (h : s.length ≤ sizeLine ∧ PyData.strOk s = true) : Y m (.str s) := by cases m <;> exact h
theorem Yrep {m n : Nat} {d : D} (h : Y m d) (hn : n ≤ sizeLine) : Y (m + 1) (.tup (List.replicate n [d]).flatten) := ⟨by rw [rep_len]; exact hn, fun x hx => by rw [rep_mem hx]; exact h⟩
theorem YrepL {m n : Nat} {d : D} (h : Y m d) (hn : n ≤ sizeLine) : Y (m + 1) (.lst (List.replicate n [d]).flatten) := ⟨by rw [rep_len]; exact hn, fun x hx => by rw [rep_mem hx]; exact h⟩
theorem l1000 {n : Nat} (h : Nat.ble n 1000 = true := by rfl) : n ≤ sizeLine := ln3 (Nat.le_of_ble_eq_true h)
theorem things2 {o : OC} {L : List D} {Q : Rv → List OC → Prop} (hJ : J o) (hL : ∀ d ∈ L, Y 42 d) (hl : L.length = 12) (hQ : ∀ ds o', J o' → (∀ d ∈ ds, Y 42 d) → ds.length = 17 → Q (.own (.lst ds)) [o']) :
    dRet (dOp addD (dV 1) (dLst (dCons (dCall sp_deep ED0 (dBor 0 (dCons (dC (.int 1)) dNil))) (dCons (dCall sp_deep ED0 (dBor 0 (dCons (dTup dNil) dNil))) (dCons (dTup (dCons (dC .non) dNil)) (dCons (dTup (dCons (dTup dNil) dNil)) (dCons (dOp powD (dC (.int 10)) (dC (.int 30))) dNil))))))) (endsOf [.bor o] Q) [.bor o, .fz (.lst L)] := by
  (try simp only [dSeq, dIfS, dRet, dRetN, dNext, dSet, dSetO, dDrop, dCall, callQ, dCallKw, dCons, dNil, dBor, dsQ, dTup, dLst, dV, dC, slot, dOp, dUn, dCmp, dCmpT, dChain, dChainT, dTru, dAnd, dOr, dNot, dAndV, dOrV, dNotV, dIf, dIsi, dNoO, dSoO, dSl, bodyQ, endsOf, outsOf, lents, putB, lentQ, dAsg, gNm, gsNil, iSeq, iRng, DL.iRng2, iEnm, dLm, dLm0, dPut, dMm, dYes, hQ, isSub, hideE, pick_0, pick_10, pick_210, rep2, kg, dFor, dLc, wipeD, restD, dPar, ixN3_0, ixN3_1, ixN3_2, ex_some, dRaise_1, dHeard_e, List.set_cons_zero, List.set_cons_succ, rdQ_fz, rdQ_own, rdQ_at, rdS_fz, rdS_own, rdS_bor, frzQ_fz, frzQ_own, frzQ_at, frS_fz, frS_own, nmQ_s, nmS_fz, nmS_own, nmS_bor, retQ_fz, retQ_own, retQ_at, rtS_fz, rtS_own, argsOf_at, argsOf_d, argsOf_n, lnS_own, lnS_bor, lnS_fz, reS_o, reS_b, setF_d, setO_own, setO_fz, setO_at, notBor_fz, notBor_own, notBor_no, isOwn_own, isOwn_bor, addD_ii, addD_ss, addD_ll, addD_tt, subD_ii, mulD_ii, mulD_li, mulD_ti, fdivD_ii, modD_ii, powD_ii, negD_i, ltD_ii, leD_ii, gtD_ii, geD_ii, isQ_n, isQ_b, nisQ_n, isN_non, isN_bl, isN_int, isN_str, isN_tup, isN_lst, isN_rol, isN_dct, isT_int_non, isT_int_bl, isT_int_int, isT_int_str, isT_int_tup, isT_int_lst, isT_int_rol, isT_int_dct, isT_bool_non, isT_bool_bl, isT_bool_int, isT_bool_str, isT_bool_tup, isT_bool_lst, isT_bool_rol, isT_bool_dct, isT_str_non, isT_str_bl, isT_str_int, isT_str_str, isT_str_tup, isT_str_lst, isT_str_rol, isT_str_dct, isT_tuple_non, isT_tuple_bl, isT_tuple_int, isT_tuple_str, isT_tuple_tup, isT_tuple_lst, isT_tuple_rol, isT_tuple_dct, isT_list_non, isT_list_bl, isT_list_int, isT_list_str, isT_list_tup, isT_list_lst, isT_list_rol, isT_list_dct, isT_dict_non, isT_dict_bl, isT_dict_int, isT_dict_str, isT_dict_tup, isT_dict_lst, isT_dict_rol, isT_dict_dct, truQ_non, truQ_bl, truQ_int, truQ_tup, truQ_lst, blQ_bl, lenD_tup, lenD_lst, lenD_rol, lenD_str, tupD_tup, tupD_lst, lstD_tup, lstD_lst, lstD_rol, intD_i, intD_b, boolD_i, boolD_b, ixD_tup, ixD_lst, ixD_rol, slD_lst, slD_tup, intQ_i, appD_1, extD_1, lsQ_own, lsQ_bor, gTp_t, gsCons_c, seqQ_t, seqQ_l, seqQ_r, hideS_fz, hideS_own, hideS_bor, hideS_no, mmQ_ii, atI_0, atI_1, atI_2, List.map_cons, List.map_nil, List.replicate, List.cons_append, List.nil_append, List.append_nil, List.set, List.length_cons, List.length_nil, decide_eq_true_eq, if_true, if_false, Bool.not_true, Bool.not_false, Bool.false_eq_true, and_true, true_and, List.nodup_cons, List.not_mem_nil, not_false_eq_true, List.nodup_nil, List.mem_cons, or_false, List.getD])
  refine ⟨(by simp [lents, slot, Sl.isOwn]), w_deep (m := 0) hJ Yint fun e1 o1 h1 y1 => ?_⟩
  (try simp only [dSeq, dIfS, dRet, dRetN, dNext, dSet, dSetO, dDrop, dCall, callQ, dCallKw, dCons, dNil, dBor, dsQ, dTup, dLst, dV, dC, slot, dOp, dUn, dCmp, dCmpT, dChain, dChainT, dTru, dAnd, dOr, dNot, dAndV, dOrV, dNotV, dIf, dIsi, dNoO, dSoO, dSl, bodyQ, endsOf, outsOf, lents, putB, lentQ, dAsg, gNm, gsNil, iSeq, iRng, DL.iRng2, iEnm, dLm, dLm0, dPut, dMm, dYes, hQ, isSub, hideE, pick_0, pick_10, pick_210, rep2, kg, dFor, dLc, wipeD, restD, dPar, ixN3_0, ixN3_1, ixN3_2, ex_some, dRaise_1, dHeard_e, List.set_cons_zero, List.set_cons_succ, rdQ_fz, rdQ_own, rdQ_at, rdS_fz, rdS_own, rdS_bor, frzQ_fz, frzQ_own, frzQ_at, frS_fz, frS_own, nmQ_s, nmS_fz, nmS_own, nmS_bor, retQ_fz, retQ_own, retQ_at, rtS_fz, rtS_own, argsOf_at, argsOf_d, argsOf_n, lnS_own, lnS_bor, lnS_fz, reS_o, reS_b, setF_d, setO_own, setO_fz, setO_at, notBor_fz, notBor_own, notBor_no, isOwn_own, isOwn_bor, addD_ii, addD_ss, addD_ll, addD_tt, subD_ii, mulD_ii, mulD_li, mulD_ti, fdivD_ii, modD_ii, powD_ii, negD_i, ltD_ii, leD_ii, gtD_ii, geD_ii, isQ_n, isQ_b, nisQ_n, isN_non, isN_bl, isN_int, isN_str, isN_tup, isN_lst, isN_rol, isN_dct, isT_int_non, isT_int_bl, isT_int_int, isT_int_str, isT_int_tup, isT_int_lst, isT_int_rol, isT_int_dct, isT_bool_non, isT_bool_bl, isT_bool_int, isT_bool_str, isT_bool_tup, isT_bool_lst, isT_bool_rol, isT_bool_dct, isT_str_non, isT_str_bl, isT_str_int, isT_str_str, isT_str_tup, isT_str_lst, isT_str_rol, isT_str_dct, isT_tuple_non, isT_tuple_bl, isT_tuple_int, isT_tuple_str, isT_tuple_tup, isT_tuple_lst, isT_tuple_rol, isT_tuple_dct, isT_list_non, isT_list_bl, isT_list_int, isT_list_str, isT_list_tup, isT_list_lst, isT_list_rol, isT_list_dct, isT_dict_non, isT_dict_bl, isT_dict_int, isT_dict_str, isT_dict_tup, isT_dict_lst, isT_dict_rol, isT_dict_dct, truQ_non, truQ_bl, truQ_int, truQ_tup, truQ_lst, blQ_bl, lenD_tup, lenD_lst, lenD_rol, lenD_str, tupD_tup, tupD_lst, lstD_tup, lstD_lst, lstD_rol, intD_i, intD_b, boolD_i, boolD_b, ixD_tup, ixD_lst, ixD_rol, slD_lst, slD_tup, intQ_i, appD_1, extD_1, lsQ_own, lsQ_bor, gTp_t, gsCons_c, seqQ_t, seqQ_l, seqQ_r, hideS_fz, hideS_own, hideS_bor, hideS_no, mmQ_ii, atI_0, atI_1, atI_2, List.map_cons, List.map_nil, List.replicate, List.cons_append, List.nil_append, List.append_nil, List.set, List.length_cons, List.length_nil, decide_eq_true_eq, if_true, if_false, Bool.not_true, Bool.not_false, Bool.false_eq_true, and_true, true_and, List.nodup_cons, List.not_mem_nil, not_false_eq_true, List.nodup_nil, List.mem_cons, or_false, List.getD])
  refine ⟨(by rw [sizeLine_eq]; omega), (by simp [lents, slot, Sl.isOwn]), w_deep (m := 1) h1 (Y.tupOf l1000 fun d hd => by cases hd) fun e2 o2 h2 y2 => ?_⟩
  (try simp only [dSeq, dIfS, dRet, dRetN, dNext, dSet, dSetO, dDrop, dCall, callQ, dCallKw, dCons, dNil, dBor, dsQ, dTup, dLst, dV, dC, slot, dOp, dUn, dCmp, dCmpT, dChain, dChainT, dTru, dAnd, dOr, dNot, dAndV, dOrV, dNotV, dIf, dIsi, dNoO, dSoO, dSl, bodyQ, endsOf, outsOf, lents, putB, lentQ, dAsg, gNm, gsNil, iSeq, iRng, DL.iRng2, iEnm, dLm, dLm0, dPut, dMm, dYes, hQ, isSub, hideE, pick_0, pick_10, pick_210, rep2, kg, dFor, dLc, wipeD, restD, dPar, ixN3_0, ixN3_1, ixN3_2, ex_some, dRaise_1, dHeard_e, List.set_cons_zero, List.set_cons_succ, rdQ_fz, rdQ_own, rdQ_at, rdS_fz, rdS_own, rdS_bor, frzQ_fz, frzQ_own, frzQ_at, frS_fz, frS_own, nmQ_s, nmS_fz, nmS_own, nmS_bor, retQ_fz, retQ_own, retQ_at, rtS_fz, rtS_own, argsOf_at, argsOf_d, argsOf_n, lnS_own, lnS_bor, lnS_fz, reS_o, reS_b, setF_d, setO_own, setO_fz, setO_at, notBor_fz, notBor_own, notBor_no, isOwn_own, isOwn_bor, addD_ii, addD_ss, addD_ll, addD_tt, subD_ii, mulD_ii, mulD_li, mulD_ti, fdivD_ii, modD_ii, powD_ii, negD_i, ltD_ii, leD_ii, gtD_ii, geD_ii, isQ_n, isQ_b, nisQ_n, isN_non, isN_bl, isN_int, isN_str, isN_tup, isN_lst, isN_rol, isN_dct, isT_int_non, isT_int_bl, isT_int_int, isT_int_str, isT_int_tup, isT_int_lst, isT_int_rol, isT_int_dct, isT_bool_non, isT_bool_bl, isT_bool_int, isT_bool_str, isT_bool_tup, isT_bool_lst, isT_bool_rol, isT_bool_dct, isT_str_non, isT_str_bl, isT_str_int, isT_str_str, isT_str_tup, isT_str_lst, isT_str_rol, isT_str_dct, isT_tuple_non, isT_tuple_bl, isT_tuple_int, isT_tuple_str, isT_tuple_tup, isT_tuple_lst, isT_tuple_rol, isT_tuple_dct, isT_list_non, isT_list_bl, isT_list_int, isT_list_str, isT_list_tup, isT_list_lst, isT_list_rol, isT_list_dct, isT_dict_non, isT_dict_bl, isT_dict_int, isT_dict_str, isT_dict_tup, isT_dict_lst, isT_dict_rol, isT_dict_dct, truQ_non, truQ_bl, truQ_int, truQ_tup, truQ_lst, blQ_bl, lenD_tup, lenD_lst, lenD_rol, lenD_str, tupD_tup, tupD_lst, lstD_tup, lstD_lst, lstD_rol, intD_i, intD_b, boolD_i, boolD_b, ixD_tup, ixD_lst, ixD_rol, slD_lst, slD_tup, intQ_i, appD_1, extD_1, lsQ_own, lsQ_bor, gTp_t, gsCons_c, seqQ_t, seqQ_l, seqQ_r, hideS_fz, hideS_own, hideS_bor, hideS_no, mmQ_ii, atI_0, atI_1, atI_2, List.map_cons, List.map_nil, List.replicate, List.cons_append, List.nil_append, List.append_nil, List.set, List.length_cons, List.length_nil, decide_eq_true_eq, if_true, if_false, Bool.not_true, Bool.not_false, Bool.false_eq_true, and_true, true_and, List.nodup_cons, List.not_mem_nil, not_false_eq_true, List.nodup_nil, List.mem_cons, or_false, List.getD])
  refine ⟨(by rw [sizeLine_eq]; omega), (by rw [sizeLine_eq]; omega), (by rw [sizeLine_eq]; omega), ⟨by decide, by decide, by decide⟩, (by rw [sizeLine_eq]; omega), (by rw [sizeLine_eq]; omega), hQ _ _ h2 (fun d hd => ?_) (by simp; omega)⟩
  rcases List.mem_append.mp hd with hd | hd
  · exact hL d hd
  · simp only [List.mem_cons, List.not_mem_nil, or_false] at hd
    rcases hd with rfl | rfl | rfl | rfl | rfl
    · exact y1.le (by decide)
    · exact y2.le (by decide)
    · exact Y.tupOf l1000 fun d hd => by rw [List.mem_singleton] at hd; rw [hd]; exact Ynon
    · exact Y.tupOf l1000 fun d hd => by rw [List.mem_singleton] at hd; rw [hd]; exact Y.tupOf l1000 fun d hd => by cases hd
    · exact Yint
theorem w_things {o : OC} {Q : Rv → List OC → Prop} {ED : Nat → D → Prop} (hJ : J o) (hQ : ∀ ds o', J o' → (∀ d ∈ ds, Y 42 d) → ds.length = 17 → Q (.own (.lst ds)) [o']) : sp_things [.bor o] Q ED := by
  refine ⟨rfl, ?_⟩
  have y12 : ∀ {m : Nat}, ∀ d ∈ [D.int 1, D.int 2], Y m d := fun d hd => by
    simp only [List.mem_cons, List.not_mem_nil, or_false] at hd
    rcases hd with rfl | rfl <;> exact Yint
  refine seq_i (set_i (lst_i (.cons .c (.cons .c (.cons .c (.cons .c (.cons .c (.cons (.tup .nil l1000) (.cons (.lst .nil l1000) (.cons (.lst (.cons .c (.cons .c .nil)) l1000) (.cons (.tup (.cons (.tup (.cons .c (.cons .c .nil)) l1000) .nil) l1000) (.cons (.lst (.cons (.tup (.cons .c (.cons .c .nil)) l1000) .nil) l1000)
    (.cons (.mulT (.cons .c .nil) .c l1000 ⟨by simp, by decide, by decide, by decide⟩ uC) (.cons (.mulL (.cons (.tup .nil l1000) .nil) l1000 ⟨⟨by decide, by decide⟩, by rw [sizeLine_eq]; decide⟩ uC) .nil)))))))))))) l1000 (nb_i rfl ?_)))
  refine things2 hJ (fun d hd => ?_) rfl hQ
  simp only [List.mem_cons, List.not_mem_nil, or_false] at hd
  rcases hd with rfl | rfl | rfl | rfl | rfl | rfl | rfl | rfl | rfl | rfl | rfl | rfl
  · exact Ynon
  · exact Yint
  · exact Ybo
  · exact Ystr ⟨by rw [sizeLine_eq]; decide, by decide +kernel⟩
  · exact Ystr ⟨by rw [sizeLine_eq]; decide, by decide +kernel⟩
  · exact Y.tupOf l1000 fun d hd => by cases hd
  · exact Y.lstOf l1000 fun d hd => by cases hd
  · exact Y.lstOf l1000 y12
  · exact Y.tupOf l1000 fun d hd => by rw [List.mem_singleton] at hd; rw [hd]; exact Y.tupOf l1000 y12
  · exact Y.lstOf l1000 fun d hd => by rw [List.mem_singleton] at hd; rw [hd]; exact Y.tupOf l1000 y12
  · exact Yrep Yint (by rw [sizeLine_eq]; decide)
  · exact YrepL (Y.tupOf (m := 40) l1000 fun d hd => by cases hd) (by rw [sizeLine_eq]; decide)
end K01

set_option Elab.async false
set_option linter.all false
set_option maxRecDepth 100000
set_option maxHeartbeats 400000
namespace K01
open PySem PySem.Spec PyProof.Rows L2 LamX NdefX DL
theorem In6.ints {ss : List D} (h : In6 ss) : Ints ss := fun d hd => by
  obtain ⟨x, e, _⟩ := h d hd
  exact ⟨x, e⟩
theorem Ints.y {m : Nat} {ss : List D} (h : Ints ss) : ∀ d ∈ ss, Y m d := fun d hd => by
  obtain ⟨x, e⟩ := h d hd
  rw [e]; exact Yint
/-- the loop that asks sizes_right of each -/
theorem loopS {Dn : DEnds} {i : Nat} (st : Sl → En) (hs : ∀ s, slot (st s) i = s) (hset : ∀ s d, (st s).set i (.fz d) = st (.fz d)) (hn : ∀ s, notBor s = true → Dn.nx (st s)) :
    ∀ (ds : List D) s, notBor s = true → (∀ d ∈ ds, Y 50 d) → forL (gNm i) (dIfS (dNot (dTru (dCall sp_sizes_right ED0 (dCons (dV i) dNil)))) (dRet (dC (.bl false))) dNext) Dn ds (st s)
  | [], s, hb, _ => hn s hb
  | d :: ds, s, hb, hY => by
    have nxt := loopS st hs hset hn ds (.fz d) rfl fun e he => hY e (List.mem_cons_of_mem _ he)
    refine ⟨by rw [hs]; exact hb, ?_⟩
    rw [hset]
    (try simp only [dSeq, dIfS, dRet, dRetN, dNext, dSet, dSetO, dDrop, dCall, callQ, dCallKw, dCons, dNil, dBor, dsQ, dTup, dLst, dV, dC, slot, dOp, dUn, dCmp, dCmpT, dChain, dChainT, dTru, dAnd, dOr, dNot, dAndV, dOrV, dNotV, dIf, dIsi, dNoO, dSoO, dSl, bodyQ, endsOf, outsOf, lents, putB, lentQ, dAsg, gNm, gsNil, iSeq, iRng, DL.iRng2, iEnm, dLm, dLm0, dPut, dMm, dYes, hQ, isSub, hideE, pick_0, pick_10, pick_210, rep2, kg, dFor, dLc, wipeD, restD, dPar, ixN3_0, ixN3_1, ixN3_2, ex_some, dRaise_1, dHeard_e, List.set_cons_zero, List.set_cons_succ, rdQ_fz, rdQ_own, rdQ_at, rdS_fz, rdS_own, rdS_bor, frzQ_fz, frzQ_own, frzQ_at, frS_fz, frS_own, nmQ_s, nmS_fz, nmS_own, nmS_bor, retQ_fz, retQ_own, retQ_at, rtS_fz, rtS_own, argsOf_at, argsOf_d, argsOf_n, lnS_own, lnS_bor, lnS_fz, reS_o, reS_b, setF_d, setO_own, setO_fz, setO_at, notBor_fz, notBor_own, notBor_no, isOwn_own, isOwn_bor, addD_ii, addD_ss, addD_ll, addD_tt, subD_ii, mulD_ii, mulD_li, mulD_ti, fdivD_ii, modD_ii, powD_ii, negD_i, ltD_ii, leD_ii, gtD_ii, geD_ii, isQ_n, isQ_b, nisQ_n, isN_non, isN_bl, isN_int, isN_str, isN_tup, isN_lst, isN_rol, isN_dct, isT_int_non, isT_int_bl, isT_int_int, isT_int_str, isT_int_tup, isT_int_lst, isT_int_rol, isT_int_dct, isT_bool_non, isT_bool_bl, isT_bool_int, isT_bool_str, isT_bool_tup, isT_bool_lst, isT_bool_rol, isT_bool_dct, isT_str_non, isT_str_bl, isT_str_int, isT_str_str, isT_str_tup, isT_str_lst, isT_str_rol, isT_str_dct, isT_tuple_non, isT_tuple_bl, isT_tuple_int, isT_tuple_str, isT_tuple_tup, isT_tuple_lst, isT_tuple_rol, isT_tuple_dct, isT_list_non, isT_list_bl, isT_list_int, isT_list_str, isT_list_tup, isT_list_lst, isT_list_rol, isT_list_dct, isT_dict_non, isT_dict_bl, isT_dict_int, isT_dict_str, isT_dict_tup, isT_dict_lst, isT_dict_rol, isT_dict_dct, truQ_non, truQ_bl, truQ_int, truQ_tup, truQ_lst, blQ_bl, lenD_tup, lenD_lst, lenD_rol, lenD_str, tupD_tup, tupD_lst, lstD_tup, lstD_lst, lstD_rol, intD_i, intD_b, boolD_i, boolD_b, ixD_tup, ixD_lst, ixD_rol, slD_lst, slD_tup, intQ_i, appD_1, extD_1, lsQ_own, lsQ_bor, gTp_t, gsCons_c, seqQ_t, seqQ_l, seqQ_r, hideS_fz, hideS_own, hideS_bor, hideS_no, mmQ_ii, atI_0, atI_1, atI_2, List.map_cons, List.map_nil, List.replicate, List.cons_append, List.nil_append, List.append_nil, List.set, List.length_cons, List.length_nil, decide_eq_true_eq, if_true, if_false, Bool.not_true, Bool.not_false, Bool.false_eq_true, and_true, true_and, List.nodup_cons, List.not_mem_nil, not_false_eq_true, List.nodup_nil, List.mem_cons, or_false, List.getD, hs])
    refine ⟨(by simp [lents, slot, Sl.isOwn]), w_sizes_right (hY d List.mem_cons_self) ?_⟩
    (try simp only [dSeq, dIfS, dRet, dRetN, dNext, dSet, dSetO, dDrop, dCall, callQ, dCallKw, dCons, dNil, dBor, dsQ, dTup, dLst, dV, dC, slot, dOp, dUn, dCmp, dCmpT, dChain, dChainT, dTru, dAnd, dOr, dNot, dAndV, dOrV, dNotV, dIf, dIsi, dNoO, dSoO, dSl, bodyQ, endsOf, outsOf, lents, putB, lentQ, dAsg, gNm, gsNil, iSeq, iRng, DL.iRng2, iEnm, dLm, dLm0, dPut, dMm, dYes, hQ, isSub, hideE, pick_0, pick_10, pick_210, rep2, kg, dFor, dLc, wipeD, restD, dPar, ixN3_0, ixN3_1, ixN3_2, ex_some, dRaise_1, dHeard_e, List.set_cons_zero, List.set_cons_succ, rdQ_fz, rdQ_own, rdQ_at, rdS_fz, rdS_own, rdS_bor, frzQ_fz, frzQ_own, frzQ_at, frS_fz, frS_own, nmQ_s, nmS_fz, nmS_own, nmS_bor, retQ_fz, retQ_own, retQ_at, rtS_fz, rtS_own, argsOf_at, argsOf_d, argsOf_n, lnS_own, lnS_bor, lnS_fz, reS_o, reS_b, setF_d, setO_own, setO_fz, setO_at, notBor_fz, notBor_own, notBor_no, isOwn_own, isOwn_bor, addD_ii, addD_ss, addD_ll, addD_tt, subD_ii, mulD_ii, mulD_li, mulD_ti, fdivD_ii, modD_ii, powD_ii, negD_i, ltD_ii, leD_ii, gtD_ii, geD_ii, isQ_n, isQ_b, nisQ_n, isN_non, isN_bl, isN_int, isN_str, isN_tup, isN_lst, isN_rol, isN_dct, isT_int_non, isT_int_bl, isT_int_int, isT_int_str, isT_int_tup, isT_int_lst, isT_int_rol, isT_int_dct, isT_bool_non, isT_bool_bl, isT_bool_int, isT_bool_str, isT_bool_tup, isT_bool_lst, isT_bool_rol, isT_bool_dct, isT_str_non, isT_str_bl, isT_str_int, isT_str_str, isT_str_tup, isT_str_lst, isT_str_rol, isT_str_dct, isT_tuple_non, isT_tuple_bl, isT_tuple_int, isT_tuple_str, isT_tuple_tup, isT_tuple_lst, isT_tuple_rol, isT_tuple_dct, isT_list_non, isT_list_bl, isT_list_int, isT_list_str, isT_list_tup, isT_list_lst, isT_list_rol, isT_list_dct, isT_dict_non, isT_dict_bl, isT_dict_int, isT_dict_str, isT_dict_tup, isT_dict_lst, isT_dict_rol, isT_dict_dct, truQ_non, truQ_bl, truQ_int, truQ_tup, truQ_lst, blQ_bl, lenD_tup, lenD_lst, lenD_rol, lenD_str, tupD_tup, tupD_lst, lstD_tup, lstD_lst, lstD_rol, intD_i, intD_b, boolD_i, boolD_b, ixD_tup, ixD_lst, ixD_rol, slD_lst, slD_tup, intQ_i, appD_1, extD_1, lsQ_own, lsQ_bor, gTp_t, gsCons_c, seqQ_t, seqQ_l, seqQ_r, hideS_fz, hideS_own, hideS_bor, hideS_no, mmQ_ii, atI_0, atI_1, atI_2, List.map_cons, List.map_nil, List.replicate, List.cons_append, List.nil_append, List.append_nil, List.set, List.length_cons, List.length_nil, decide_eq_true_eq, if_true, if_false, Bool.not_true, Bool.not_false, Bool.false_eq_true, and_true, true_and, List.nodup_cons, List.not_mem_nil, not_false_eq_true, List.nodup_nil, List.mem_cons, or_false, List.getD])
    all_goals exact nxt
theorem loopP {Dn : DEnds} {i j : Nat} {sd : D} (hS : Y 50 sd) (st : Sl → En) (hs : ∀ s, slot (st s) i = s) (hj : ∀ s, slot (st s) j = .fz sd) (hset : ∀ s d, (st s).set i (.fz d) = st (.fz d)) (hn : ∀ s, notBor s = true → Dn.nx (st s)) :
    ∀ (ds : List D) s, notBor s = true → (∀ d ∈ ds, Y 50 d) → forL (gNm i) (dIfS (dNot (dTru (dCall sp_page_right ED0 (dCons (dV j) (dCons (dV i) dNil))))) (dRet (dC (.bl false))) dNext) Dn ds (st s)
  | [], s, hb, _ => hn s hb
  | d :: ds, s, hb, hY => by
    have nxt := loopP hS st hs hj hset hn ds (.fz d) rfl fun e he => hY e (List.mem_cons_of_mem _ he)
    refine ⟨by rw [hs]; exact hb, ?_⟩
    rw [hset]
    (try simp only [dSeq, dIfS, dRet, dRetN, dNext, dSet, dSetO, dDrop, dCall, callQ, dCallKw, dCons, dNil, dBor, dsQ, dTup, dLst, dV, dC, slot, dOp, dUn, dCmp, dCmpT, dChain, dChainT, dTru, dAnd, dOr, dNot, dAndV, dOrV, dNotV, dIf, dIsi, dNoO, dSoO, dSl, bodyQ, endsOf, outsOf, lents, putB, lentQ, dAsg, gNm, gsNil, iSeq, iRng, DL.iRng2, iEnm, dLm, dLm0, dPut, dMm, dYes, hQ, isSub, hideE, pick_0, pick_10, pick_210, rep2, kg, dFor, dLc, wipeD, restD, dPar, ixN3_0, ixN3_1, ixN3_2, ex_some, dRaise_1, dHeard_e, List.set_cons_zero, List.set_cons_succ, rdQ_fz, rdQ_own, rdQ_at, rdS_fz, rdS_own, rdS_bor, frzQ_fz, frzQ_own, frzQ_at, frS_fz, frS_own, nmQ_s, nmS_fz, nmS_own, nmS_bor, retQ_fz, retQ_own, retQ_at, rtS_fz, rtS_own, argsOf_at, argsOf_d, argsOf_n, lnS_own, lnS_bor, lnS_fz, reS_o, reS_b, setF_d, setO_own, setO_fz, setO_at, notBor_fz, notBor_own, notBor_no, isOwn_own, isOwn_bor, addD_ii, addD_ss, addD_ll, addD_tt, subD_ii, mulD_ii, mulD_li, mulD_ti, fdivD_ii, modD_ii, powD_ii, negD_i, ltD_ii, leD_ii, gtD_ii, geD_ii, isQ_n, isQ_b, nisQ_n, isN_non, isN_bl, isN_int, isN_str, isN_tup, isN_lst, isN_rol, isN_dct, isT_int_non, isT_int_bl, isT_int_int, isT_int_str, isT_int_tup, isT_int_lst, isT_int_rol, isT_int_dct, isT_bool_non, isT_bool_bl, isT_bool_int, isT_bool_str, isT_bool_tup, isT_bool_lst, isT_bool_rol, isT_bool_dct, isT_str_non, isT_str_bl, isT_str_int, isT_str_str, isT_str_tup, isT_str_lst, isT_str_rol, isT_str_dct, isT_tuple_non, isT_tuple_bl, isT_tuple_int, isT_tuple_str, isT_tuple_tup, isT_tuple_lst, isT_tuple_rol, isT_tuple_dct, isT_list_non, isT_list_bl, isT_list_int, isT_list_str, isT_list_tup, isT_list_lst, isT_list_rol, isT_list_dct, isT_dict_non, isT_dict_bl, isT_dict_int, isT_dict_str, isT_dict_tup, isT_dict_lst, isT_dict_rol, isT_dict_dct, truQ_non, truQ_bl, truQ_int, truQ_tup, truQ_lst, blQ_bl, lenD_tup, lenD_lst, lenD_rol, lenD_str, tupD_tup, tupD_lst, lstD_tup, lstD_lst, lstD_rol, intD_i, intD_b, boolD_i, boolD_b, ixD_tup, ixD_lst, ixD_rol, slD_lst, slD_tup, intQ_i, appD_1, extD_1, lsQ_own, lsQ_bor, gTp_t, gsCons_c, seqQ_t, seqQ_l, seqQ_r, hideS_fz, hideS_own, hideS_bor, hideS_no, mmQ_ii, atI_0, atI_1, atI_2, List.map_cons, List.map_nil, List.replicate, List.cons_append, List.nil_append, List.append_nil, List.set, List.length_cons, List.length_nil, decide_eq_true_eq, if_true, if_false, Bool.not_true, Bool.not_false, Bool.false_eq_true, and_true, true_and, List.nodup_cons, List.not_mem_nil, not_false_eq_true, List.nodup_nil, List.mem_cons, or_false, List.getD, hs, hj])
    refine ⟨(by simp [lents, slot, Sl.isOwn]), w_page_right hS (hY d List.mem_cons_self) ?_⟩
    (try simp only [dSeq, dIfS, dRet, dRetN, dNext, dSet, dSetO, dDrop, dCall, callQ, dCallKw, dCons, dNil, dBor, dsQ, dTup, dLst, dV, dC, slot, dOp, dUn, dCmp, dCmpT, dChain, dChainT, dTru, dAnd, dOr, dNot, dAndV, dOrV, dNotV, dIf, dIsi, dNoO, dSoO, dSl, bodyQ, endsOf, outsOf, lents, putB, lentQ, dAsg, gNm, gsNil, iSeq, iRng, DL.iRng2, iEnm, dLm, dLm0, dPut, dMm, dYes, hQ, isSub, hideE, pick_0, pick_10, pick_210, rep2, kg, dFor, dLc, wipeD, restD, dPar, ixN3_0, ixN3_1, ixN3_2, ex_some, dRaise_1, dHeard_e, List.set_cons_zero, List.set_cons_succ, rdQ_fz, rdQ_own, rdQ_at, rdS_fz, rdS_own, rdS_bor, frzQ_fz, frzQ_own, frzQ_at, frS_fz, frS_own, nmQ_s, nmS_fz, nmS_own, nmS_bor, retQ_fz, retQ_own, retQ_at, rtS_fz, rtS_own, argsOf_at, argsOf_d, argsOf_n, lnS_own, lnS_bor, lnS_fz, reS_o, reS_b, setF_d, setO_own, setO_fz, setO_at, notBor_fz, notBor_own, notBor_no, isOwn_own, isOwn_bor, addD_ii, addD_ss, addD_ll, addD_tt, subD_ii, mulD_ii, mulD_li, mulD_ti, fdivD_ii, modD_ii, powD_ii, negD_i, ltD_ii, leD_ii, gtD_ii, geD_ii, isQ_n, isQ_b, nisQ_n, isN_non, isN_bl, isN_int, isN_str, isN_tup, isN_lst, isN_rol, isN_dct, isT_int_non, isT_int_bl, isT_int_int, isT_int_str, isT_int_tup, isT_int_lst, isT_int_rol, isT_int_dct, isT_bool_non, isT_bool_bl, isT_bool_int, isT_bool_str, isT_bool_tup, isT_bool_lst, isT_bool_rol, isT_bool_dct, isT_str_non, isT_str_bl, isT_str_int, isT_str_str, isT_str_tup, isT_str_lst, isT_str_rol, isT_str_dct, isT_tuple_non, isT_tuple_bl, isT_tuple_int, isT_tuple_str, isT_tuple_tup, isT_tuple_lst, isT_tuple_rol, isT_tuple_dct, isT_list_non, isT_list_bl, isT_list_int, isT_list_str, isT_list_tup, isT_list_lst, isT_list_rol, isT_list_dct, isT_dict_non, isT_dict_bl, isT_dict_int, isT_dict_str, isT_dict_tup, isT_dict_lst, isT_dict_rol, isT_dict_dct, truQ_non, truQ_bl, truQ_int, truQ_tup, truQ_lst, blQ_bl, lenD_tup, lenD_lst, lenD_rol, lenD_str, tupD_tup, tupD_lst, lstD_tup, lstD_lst, lstD_rol, intD_i, intD_b, boolD_i, boolD_b, ixD_tup, ixD_lst, ixD_rol, slD_lst, slD_tup, intQ_i, appD_1, extD_1, lsQ_own, lsQ_bor, gTp_t, gsCons_c, seqQ_t, seqQ_l, seqQ_r, hideS_fz, hideS_own, hideS_bor, hideS_no, mmQ_ii, atI_0, atI_1, atI_2, List.map_cons, List.map_nil, List.replicate, List.cons_append, List.nil_append, List.append_nil, List.set, List.length_cons, List.length_nil, decide_eq_true_eq, if_true, if_false, Bool.not_true, Bool.not_false, Bool.false_eq_true, and_true, true_and, List.nodup_cons, List.not_mem_nil, not_false_eq_true, List.nodup_nil, List.mem_cons, or_false, List.getD])
    all_goals exact nxt
section
variable {o : OC} {n : Int} {Dn : DEnds} {s2 s3 s4 s5 s6 s7 s8 s9 : Sl}
theorem wr1 (hJ : J o) (h0 : 1 ≤ n) (h1 : n ≤ 24) (h : ∀ ss o', J o' → (ss.length : Int) = n → In6 ss → Dn.nx [.bor o', .fz (.int n), .fz (.tup ss), s3, s4, s5, s6, s7, s8, s9]) (hb : notBor s2 = true) :
    dSet 2 (dCall sp_zc_sizes ED0 (dBor 0 (dCons (dV 1) dNil))) Dn [.bor o, .fz (.int n), s2, s3, s4, s5, s6, s7, s8, s9] := by
  (try simp only [dSeq, dIfS, dRet, dRetN, dNext, dSet, dSetO, dDrop, dCall, callQ, dCallKw, dCons, dNil, dBor, dsQ, dTup, dLst, dV, dC, slot, dOp, dUn, dCmp, dCmpT, dChain, dChainT, dTru, dAnd, dOr, dNot, dAndV, dOrV, dNotV, dIf, dIsi, dNoO, dSoO, dSl, bodyQ, endsOf, outsOf, lents, putB, lentQ, dAsg, gNm, gsNil, iSeq, iRng, DL.iRng2, iEnm, dLm, dLm0, dPut, dMm, dYes, hQ, isSub, hideE, pick_0, pick_10, pick_210, rep2, kg, dFor, dLc, wipeD, restD, dPar, ixN3_0, ixN3_1, ixN3_2, ex_some, dRaise_1, dHeard_e, List.set_cons_zero, List.set_cons_succ, rdQ_fz, rdQ_own, rdQ_at, rdS_fz, rdS_own, rdS_bor, frzQ_fz, frzQ_own, frzQ_at, frS_fz, frS_own, nmQ_s, nmS_fz, nmS_own, nmS_bor, retQ_fz, retQ_own, retQ_at, rtS_fz, rtS_own, argsOf_at, argsOf_d, argsOf_n, lnS_own, lnS_bor, lnS_fz, reS_o, reS_b, setF_d, setO_own, setO_fz, setO_at, notBor_fz, notBor_own, notBor_no, isOwn_own, isOwn_bor, addD_ii, addD_ss, addD_ll, addD_tt, subD_ii, mulD_ii, mulD_li, mulD_ti, fdivD_ii, modD_ii, powD_ii, negD_i, ltD_ii, leD_ii, gtD_ii, geD_ii, isQ_n, isQ_b, nisQ_n, isN_non, isN_bl, isN_int, isN_str, isN_tup, isN_lst, isN_rol, isN_dct, isT_int_non, isT_int_bl, isT_int_int, isT_int_str, isT_int_tup, isT_int_lst, isT_int_rol, isT_int_dct, isT_bool_non, isT_bool_bl, isT_bool_int, isT_bool_str, isT_bool_tup, isT_bool_lst, isT_bool_rol, isT_bool_dct, isT_str_non, isT_str_bl, isT_str_int, isT_str_str, isT_str_tup, isT_str_lst, isT_str_rol, isT_str_dct, isT_tuple_non, isT_tuple_bl, isT_tuple_int, isT_tuple_str, isT_tuple_tup, isT_tuple_lst, isT_tuple_rol, isT_tuple_dct, isT_list_non, isT_list_bl, isT_list_int, isT_list_str, isT_list_tup, isT_list_lst, isT_list_rol, isT_list_dct, isT_dict_non, isT_dict_bl, isT_dict_int, isT_dict_str, isT_dict_tup, isT_dict_lst, isT_dict_rol, isT_dict_dct, truQ_non, truQ_bl, truQ_int, truQ_tup, truQ_lst, blQ_bl, lenD_tup, lenD_lst, lenD_rol, lenD_str, tupD_tup, tupD_lst, lstD_tup, lstD_lst, lstD_rol, intD_i, intD_b, boolD_i, boolD_b, ixD_tup, ixD_lst, ixD_rol, slD_lst, slD_tup, intQ_i, appD_1, extD_1, lsQ_own, lsQ_bor, gTp_t, gsCons_c, seqQ_t, seqQ_l, seqQ_r, hideS_fz, hideS_own, hideS_bor, hideS_no, mmQ_ii, atI_0, atI_1, atI_2, List.map_cons, List.map_nil, List.replicate, List.cons_append, List.nil_append, List.append_nil, List.set, List.length_cons, List.length_nil, decide_eq_true_eq, if_true, if_false, Bool.not_true, Bool.not_false, Bool.false_eq_true, and_true, true_and, List.nodup_cons, List.not_mem_nil, not_false_eq_true, List.nodup_nil, List.mem_cons, or_false, List.getD])
  refine ⟨(by simp [lents, slot, Sl.isOwn]), w_zc_sizes hJ (by omega) h1 fun ss o' hJ' hl h6 => ?_⟩
  (try simp only [dSeq, dIfS, dRet, dRetN, dNext, dSet, dSetO, dDrop, dCall, callQ, dCallKw, dCons, dNil, dBor, dsQ, dTup, dLst, dV, dC, slot, dOp, dUn, dCmp, dCmpT, dChain, dChainT, dTru, dAnd, dOr, dNot, dAndV, dOrV, dNotV, dIf, dIsi, dNoO, dSoO, dSl, bodyQ, endsOf, outsOf, lents, putB, lentQ, dAsg, gNm, gsNil, iSeq, iRng, DL.iRng2, iEnm, dLm, dLm0, dPut, dMm, dYes, hQ, isSub, hideE, pick_0, pick_10, pick_210, rep2, kg, dFor, dLc, wipeD, restD, dPar, ixN3_0, ixN3_1, ixN3_2, ex_some, dRaise_1, dHeard_e, List.set_cons_zero, List.set_cons_succ, rdQ_fz, rdQ_own, rdQ_at, rdS_fz, rdS_own, rdS_bor, frzQ_fz, frzQ_own, frzQ_at, frS_fz, frS_own, nmQ_s, nmS_fz, nmS_own, nmS_bor, retQ_fz, retQ_own, retQ_at, rtS_fz, rtS_own, argsOf_at, argsOf_d, argsOf_n, lnS_own, lnS_bor, lnS_fz, reS_o, reS_b, setF_d, setO_own, setO_fz, setO_at, notBor_fz, notBor_own, notBor_no, isOwn_own, isOwn_bor, addD_ii, addD_ss, addD_ll, addD_tt, subD_ii, mulD_ii, mulD_li, mulD_ti, fdivD_ii, modD_ii, powD_ii, negD_i, ltD_ii, leD_ii, gtD_ii, geD_ii, isQ_n, isQ_b, nisQ_n, isN_non, isN_bl, isN_int, isN_str, isN_tup, isN_lst, isN_rol, isN_dct, isT_int_non, isT_int_bl, isT_int_int, isT_int_str, isT_int_tup, isT_int_lst, isT_int_rol, isT_int_dct, isT_bool_non, isT_bool_bl, isT_bool_int, isT_bool_str, isT_bool_tup, isT_bool_lst, isT_bool_rol, isT_bool_dct, isT_str_non, isT_str_bl, isT_str_int, isT_str_str, isT_str_tup, isT_str_lst, isT_str_rol, isT_str_dct, isT_tuple_non, isT_tuple_bl, isT_tuple_int, isT_tuple_str, isT_tuple_tup, isT_tuple_lst, isT_tuple_rol, isT_tuple_dct, isT_list_non, isT_list_bl, isT_list_int, isT_list_str, isT_list_tup, isT_list_lst, isT_list_rol, isT_list_dct, isT_dict_non, isT_dict_bl, isT_dict_int, isT_dict_str, isT_dict_tup, isT_dict_lst, isT_dict_rol, isT_dict_dct, truQ_non, truQ_bl, truQ_int, truQ_tup, truQ_lst, blQ_bl, lenD_tup, lenD_lst, lenD_rol, lenD_str, tupD_tup, tupD_lst, lstD_tup, lstD_lst, lstD_rol, intD_i, intD_b, boolD_i, boolD_b, ixD_tup, ixD_lst, ixD_rol, slD_lst, slD_tup, intQ_i, appD_1, extD_1, lsQ_own, lsQ_bor, gTp_t, gsCons_c, seqQ_t, seqQ_l, seqQ_r, hideS_fz, hideS_own, hideS_bor, hideS_no, mmQ_ii, atI_0, atI_1, atI_2, List.map_cons, List.map_nil, List.replicate, List.cons_append, List.nil_append, List.append_nil, List.set, List.length_cons, List.length_nil, decide_eq_true_eq, if_true, if_false, Bool.not_true, Bool.not_false, Bool.false_eq_true, and_true, true_and, List.nodup_cons, List.not_mem_nil, not_false_eq_true, List.nodup_nil, List.mem_cons, or_false, List.getD, hb])
  exact h ss o' hJ' hl h6
theorem wr2 {d1 : D} (hJ : J o) (h : ∀ od o', J o' → (∀ d ∈ od, Y 41 d) → od.length = 13 → Dn.nx [.bor o', .fz (.int n), .fz d1, .fz (.lst od), s4, s5, s6, s7, s8, s9]) (hb : notBor s3 = true) :
    dSet 3 (dLst (dCons (dC (.int 0)) (dCons (dC (.int 7)) (dCons (dUn negD (dC (.int 1))) (dCons (dC .non) (dCons (dC (.str "1")) (dCons (dC (.bl true)) (dCons (dC (.bl false)) (dCons (dTup (dCons (dC (.int 1)) dNil)) (dCons (dLst (dCons (dC (.int 1)) dNil)) (dCons (dOp powD (dC (.int 10)) (dC (.int 30))) (dCons (dC (.int 6)) (dCons (dC (.int 1)) (dCons (dCall sp_deep ED0 (dBor 0 (dCons (dC (.int 1)) dNil))) dNil))))))))))))))
      Dn [.bor o, .fz (.int n), .fz d1, s3, s4, s5, s6, s7, s8, s9] := by
  refine set_i (lstP (F := fun ta => dCons (dC (.int 0)) (dCons (dC (.int 7)) (dCons (dUn negD (dC (.int 1))) (dCons (dC .non) (dCons (dC (.str "1")) (dCons (dC (.bl true)) (dCons (dC (.bl false)) (dCons (dTup (dCons (dC (.int 1)) dNil)) (dCons (dLst (dCons (dC (.int 1)) dNil)) (dCons (dOp powD (dC (.int 10)) (dC (.int 30))) (dCons (dC (.int 6)) (dCons (dC (.int 1)) ta)))))))))))) (.cons .c (.cons .c (.cons .neg (.cons .c (.cons .c (.cons .c (.cons .c (.cons (.tup (.cons .c .nil) l1000) (.cons (.lst (.cons .c .nil) l1000) (.cons (.pow ⟨by decide, by decide, by decide⟩) (.cons .c (.cons .c .nil)))))))))))) ?_)
  (try simp only [dSeq, dIfS, dRet, dRetN, dNext, dSet, dSetO, dDrop, dCall, callQ, dCallKw, dCons, dNil, dBor, dsQ, dTup, dLst, dV, dC, slot, dOp, dUn, dCmp, dCmpT, dChain, dChainT, dTru, dAnd, dOr, dNot, dAndV, dOrV, dNotV, dIf, dIsi, dNoO, dSoO, dSl, bodyQ, endsOf, outsOf, lents, putB, lentQ, dAsg, gNm, gsNil, iSeq, iRng, DL.iRng2, iEnm, dLm, dLm0, dPut, dMm, dYes, hQ, isSub, hideE, pick_0, pick_10, pick_210, rep2, kg, dFor, dLc, wipeD, restD, dPar, ixN3_0, ixN3_1, ixN3_2, ex_some, dRaise_1, dHeard_e, List.set_cons_zero, List.set_cons_succ, rdQ_fz, rdQ_own, rdQ_at, rdS_fz, rdS_own, rdS_bor, frzQ_fz, frzQ_own, frzQ_at, frS_fz, frS_own, nmQ_s, nmS_fz, nmS_own, nmS_bor, retQ_fz, retQ_own, retQ_at, rtS_fz, rtS_own, argsOf_at, argsOf_d, argsOf_n, lnS_own, lnS_bor, lnS_fz, reS_o, reS_b, setF_d, setO_own, setO_fz, setO_at, notBor_fz, notBor_own, notBor_no, isOwn_own, isOwn_bor, addD_ii, addD_ss, addD_ll, addD_tt, subD_ii, mulD_ii, mulD_li, mulD_ti, fdivD_ii, modD_ii, powD_ii, negD_i, ltD_ii, leD_ii, gtD_ii, geD_ii, isQ_n, isQ_b, nisQ_n, isN_non, isN_bl, isN_int, isN_str, isN_tup, isN_lst, isN_rol, isN_dct, isT_int_non, isT_int_bl, isT_int_int, isT_int_str, isT_int_tup, isT_int_lst, isT_int_rol, isT_int_dct, isT_bool_non, isT_bool_bl, isT_bool_int, isT_bool_str, isT_bool_tup, isT_bool_lst, isT_bool_rol, isT_bool_dct, isT_str_non, isT_str_bl, isT_str_int, isT_str_str, isT_str_tup, isT_str_lst, isT_str_rol, isT_str_dct, isT_tuple_non, isT_tuple_bl, isT_tuple_int, isT_tuple_str, isT_tuple_tup, isT_tuple_lst, isT_tuple_rol, isT_tuple_dct, isT_list_non, isT_list_bl, isT_list_int, isT_list_str, isT_list_tup, isT_list_lst, isT_list_rol, isT_list_dct, isT_dict_non, isT_dict_bl, isT_dict_int, isT_dict_str, isT_dict_tup, isT_dict_lst, isT_dict_rol, isT_dict_dct, truQ_non, truQ_bl, truQ_int, truQ_tup, truQ_lst, blQ_bl, lenD_tup, lenD_lst, lenD_rol, lenD_str, tupD_tup, tupD_lst, lstD_tup, lstD_lst, lstD_rol, intD_i, intD_b, boolD_i, boolD_b, ixD_tup, ixD_lst, ixD_rol, slD_lst, slD_tup, intQ_i, appD_1, extD_1, lsQ_own, lsQ_bor, gTp_t, gsCons_c, seqQ_t, seqQ_l, seqQ_r, hideS_fz, hideS_own, hideS_bor, hideS_no, mmQ_ii, atI_0, atI_1, atI_2, List.map_cons, List.map_nil, List.replicate, List.cons_append, List.nil_append, List.append_nil, List.set, List.length_cons, List.length_nil, decide_eq_true_eq, if_true, if_false, Bool.not_true, Bool.not_false, Bool.false_eq_true, and_true, true_and, List.nodup_cons, List.not_mem_nil, not_false_eq_true, List.nodup_nil, List.mem_cons, or_false, List.getD])
  refine ⟨(by simp [lents, slot, Sl.isOwn]), w_deep (m := 0) hJ Yint fun e o' hJ' hy => ?_⟩
  (try simp only [dSeq, dIfS, dRet, dRetN, dNext, dSet, dSetO, dDrop, dCall, callQ, dCallKw, dCons, dNil, dBor, dsQ, dTup, dLst, dV, dC, slot, dOp, dUn, dCmp, dCmpT, dChain, dChainT, dTru, dAnd, dOr, dNot, dAndV, dOrV, dNotV, dIf, dIsi, dNoO, dSoO, dSl, bodyQ, endsOf, outsOf, lents, putB, lentQ, dAsg, gNm, gsNil, iSeq, iRng, DL.iRng2, iEnm, dLm, dLm0, dPut, dMm, dYes, hQ, isSub, hideE, pick_0, pick_10, pick_210, rep2, kg, dFor, dLc, wipeD, restD, dPar, ixN3_0, ixN3_1, ixN3_2, ex_some, dRaise_1, dHeard_e, List.set_cons_zero, List.set_cons_succ, rdQ_fz, rdQ_own, rdQ_at, rdS_fz, rdS_own, rdS_bor, frzQ_fz, frzQ_own, frzQ_at, frS_fz, frS_own, nmQ_s, nmS_fz, nmS_own, nmS_bor, retQ_fz, retQ_own, retQ_at, rtS_fz, rtS_own, argsOf_at, argsOf_d, argsOf_n, lnS_own, lnS_bor, lnS_fz, reS_o, reS_b, setF_d, setO_own, setO_fz, setO_at, notBor_fz, notBor_own, notBor_no, isOwn_own, isOwn_bor, addD_ii, addD_ss, addD_ll, addD_tt, subD_ii, mulD_ii, mulD_li, mulD_ti, fdivD_ii, modD_ii, powD_ii, negD_i, ltD_ii, leD_ii, gtD_ii, geD_ii, isQ_n, isQ_b, nisQ_n, isN_non, isN_bl, isN_int, isN_str, isN_tup, isN_lst, isN_rol, isN_dct, isT_int_non, isT_int_bl, isT_int_int, isT_int_str, isT_int_tup, isT_int_lst, isT_int_rol, isT_int_dct, isT_bool_non, isT_bool_bl, isT_bool_int, isT_bool_str, isT_bool_tup, isT_bool_lst, isT_bool_rol, isT_bool_dct, isT_str_non, isT_str_bl, isT_str_int, isT_str_str, isT_str_tup, isT_str_lst, isT_str_rol, isT_str_dct, isT_tuple_non, isT_tuple_bl, isT_tuple_int, isT_tuple_str, isT_tuple_tup, isT_tuple_lst, isT_tuple_rol, isT_tuple_dct, isT_list_non, isT_list_bl, isT_list_int, isT_list_str, isT_list_tup, isT_list_lst, isT_list_rol, isT_list_dct, isT_dict_non, isT_dict_bl, isT_dict_int, isT_dict_str, isT_dict_tup, isT_dict_lst, isT_dict_rol, isT_dict_dct, truQ_non, truQ_bl, truQ_int, truQ_tup, truQ_lst, blQ_bl, lenD_tup, lenD_lst, lenD_rol, lenD_str, tupD_tup, tupD_lst, lstD_tup, lstD_lst, lstD_rol, intD_i, intD_b, boolD_i, boolD_b, ixD_tup, ixD_lst, ixD_rol, slD_lst, slD_tup, intQ_i, appD_1, extD_1, lsQ_own, lsQ_bor, gTp_t, gsCons_c, seqQ_t, seqQ_l, seqQ_r, hideS_fz, hideS_own, hideS_bor, hideS_no, mmQ_ii, atI_0, atI_1, atI_2, List.map_cons, List.map_nil, List.replicate, List.cons_append, List.nil_append, List.append_nil, List.set, List.length_cons, List.length_nil, decide_eq_true_eq, if_true, if_false, Bool.not_true, Bool.not_false, Bool.false_eq_true, and_true, true_and, List.nodup_cons, List.not_mem_nil, not_false_eq_true, List.nodup_nil, List.mem_cons, or_false, List.getD, hb])
  refine ⟨(by rw [sizeLine_eq]; omega), h _ o' hJ' (fun d hd => ?_) rfl⟩
  simp only [List.mem_cons, List.not_mem_nil, or_false] at hd
  rcases hd with rfl | rfl | rfl | rfl | rfl | rfl | rfl | rfl | rfl | rfl | rfl | rfl | rfl
  · exact Yint
  · exact Yint
  · exact Yint
  · exact Ynon
  · exact Ystr ⟨by rw [sizeLine_eq]; decide, by decide +kernel⟩
  · exact Ybo
  · exact Ybo
  · exact Y.tupOf l1000 fun d hd => by rw [List.mem_singleton] at hd; rw [hd]; exact Yint
  · exact Y.lstOf l1000 fun d hd => by rw [List.mem_singleton] at hd; rw [hd]; exact Yint
  · exact Yint
  · exact Yint
  · exact Yint
  · exact hy.le (by decide)
theorem rp {n : Int} {ds : List D} (h : (ds.length : Int) = n) (h0 : 1 ≤ n) : ds ≠ [] := fun z => by rw [z] at h; simp at h; omega
theorem wr3 {ss od : List D} (hJ : J o) (h0 : 1 ≤ n) (h1 : n ≤ 24) (hl : (ss.length : Int) = n) (h6 : In6 ss) (ho : ∀ d ∈ od, Y 41 d) (hol : od.length = 13) (hb : notBor s4 = true)
    (h : ∀ o' s, J o' → notBor s = true → Dn.nx [.bor o', .fz (.int n), .fz (.tup ss), .fz (.lst od), s, s5, s6, s7, s8, s9]) :
    dFor (iSeq (dOp addD (dLst (dCons (dV 2) (dCons (dOp mulD (dTup (dCons (dC (.int 1)) dNil)) (dV 1)) (dCons (dOp mulD (dTup (dCons (dC (.int 6)) dNil)) (dV 1)) dNil)))) (dCall sp_bent ED0 (dBor 0 (dCons (dV 2) (dCons (dV 3) dNil)))))) (gNm 4) (dIfS (dNot (dTru (dCall sp_sizes_right ED0 (dCons (dV 4) dNil)))) (dRet (dC (.bl false))) dNext)
      Dn [.bor o, .fz (.int n), .fz (.tup ss), .fz (.lst od), s4, s5, s6, s7, s8, s9] := by
  have y1 : Y 50 (.tup ss) := Y.tupOf (by rw [sizeLine_eq]; omega) h6.ints.y
  (try simp only [dSeq, dIfS, dRet, dRetN, dNext, dSet, dSetO, dDrop, dCall, callQ, dCallKw, dCons, dNil, dBor, dsQ, dTup, dLst, dV, dC, slot, dOp, dUn, dCmp, dCmpT, dChain, dChainT, dTru, dAnd, dOr, dNot, dAndV, dOrV, dNotV, dIf, dIsi, dNoO, dSoO, dSl, bodyQ, endsOf, outsOf, lents, putB, lentQ, dAsg, gNm, gsNil, iSeq, iRng, DL.iRng2, iEnm, dLm, dLm0, dPut, dMm, dYes, hQ, isSub, hideE, pick_0, pick_10, pick_210, rep2, kg, dFor, dLc, wipeD, restD, dPar, ixN3_0, ixN3_1, ixN3_2, ex_some, dRaise_1, dHeard_e, List.set_cons_zero, List.set_cons_succ, rdQ_fz, rdQ_own, rdQ_at, rdS_fz, rdS_own, rdS_bor, frzQ_fz, frzQ_own, frzQ_at, frS_fz, frS_own, nmQ_s, nmS_fz, nmS_own, nmS_bor, retQ_fz, retQ_own, retQ_at, rtS_fz, rtS_own, argsOf_at, argsOf_d, argsOf_n, lnS_own, lnS_bor, lnS_fz, reS_o, reS_b, setF_d, setO_own, setO_fz, setO_at, notBor_fz, notBor_own, notBor_no, isOwn_own, isOwn_bor, addD_ii, addD_ss, addD_ll, addD_tt, subD_ii, mulD_ii, mulD_li, mulD_ti, fdivD_ii, modD_ii, powD_ii, negD_i, ltD_ii, leD_ii, gtD_ii, geD_ii, isQ_n, isQ_b, nisQ_n, isN_non, isN_bl, isN_int, isN_str, isN_tup, isN_lst, isN_rol, isN_dct, isT_int_non, isT_int_bl, isT_int_int, isT_int_str, isT_int_tup, isT_int_lst, isT_int_rol, isT_int_dct, isT_bool_non, isT_bool_bl, isT_bool_int, isT_bool_str, isT_bool_tup, isT_bool_lst, isT_bool_rol, isT_bool_dct, isT_str_non, isT_str_bl, isT_str_int, isT_str_str, isT_str_tup, isT_str_lst, isT_str_rol, isT_str_dct, isT_tuple_non, isT_tuple_bl, isT_tuple_int, isT_tuple_str, isT_tuple_tup, isT_tuple_lst, isT_tuple_rol, isT_tuple_dct, isT_list_non, isT_list_bl, isT_list_int, isT_list_str, isT_list_tup, isT_list_lst, isT_list_rol, isT_list_dct, isT_dict_non, isT_dict_bl, isT_dict_int, isT_dict_str, isT_dict_tup, isT_dict_lst, isT_dict_rol, isT_dict_dct, truQ_non, truQ_bl, truQ_int, truQ_tup, truQ_lst, blQ_bl, lenD_tup, lenD_lst, lenD_rol, lenD_str, tupD_tup, tupD_lst, lstD_tup, lstD_lst, lstD_rol, intD_i, intD_b, boolD_i, boolD_b, ixD_tup, ixD_lst, ixD_rol, slD_lst, slD_tup, intQ_i, appD_1, extD_1, lsQ_own, lsQ_bor, gTp_t, gsCons_c, seqQ_t, seqQ_l, seqQ_r, hideS_fz, hideS_own, hideS_bor, hideS_no, mmQ_ii, atI_0, atI_1, atI_2, List.map_cons, List.map_nil, List.replicate, List.cons_append, List.nil_append, List.append_nil, List.set, List.length_cons, List.length_nil, decide_eq_true_eq, if_true, if_false, Bool.not_true, Bool.not_false, Bool.false_eq_true, and_true, true_and, List.nodup_cons, List.not_mem_nil, not_false_eq_true, List.nodup_nil, List.mem_cons, or_false, List.getD])
  refine ⟨(by rw [sizeLine_eq]; omega), ⟨by simp, by omega, by omega, by decide⟩, (by rw [sizeLine_eq]; omega), ⟨by simp, by omega, by omega, by decide⟩, (by rw [sizeLine_eq]; omega), (by simp [lents, slot, Sl.isOwn]), w_bent (m := 41) hJ (rp hl h0) (h6.ints.y) (by omega) (by intro z; rw [z] at hol; cases hol) ho (by omega) fun bs o' hJ' hy hbl => ?_⟩
  (try simp only [dSeq, dIfS, dRet, dRetN, dNext, dSet, dSetO, dDrop, dCall, callQ, dCallKw, dCons, dNil, dBor, dsQ, dTup, dLst, dV, dC, slot, dOp, dUn, dCmp, dCmpT, dChain, dChainT, dTru, dAnd, dOr, dNot, dAndV, dOrV, dNotV, dIf, dIsi, dNoO, dSoO, dSl, bodyQ, endsOf, outsOf, lents, putB, lentQ, dAsg, gNm, gsNil, iSeq, iRng, DL.iRng2, iEnm, dLm, dLm0, dPut, dMm, dYes, hQ, isSub, hideE, pick_0, pick_10, pick_210, rep2, kg, dFor, dLc, wipeD, restD, dPar, ixN3_0, ixN3_1, ixN3_2, ex_some, dRaise_1, dHeard_e, List.set_cons_zero, List.set_cons_succ, rdQ_fz, rdQ_own, rdQ_at, rdS_fz, rdS_own, rdS_bor, frzQ_fz, frzQ_own, frzQ_at, frS_fz, frS_own, nmQ_s, nmS_fz, nmS_own, nmS_bor, retQ_fz, retQ_own, retQ_at, rtS_fz, rtS_own, argsOf_at, argsOf_d, argsOf_n, lnS_own, lnS_bor, lnS_fz, reS_o, reS_b, setF_d, setO_own, setO_fz, setO_at, notBor_fz, notBor_own, notBor_no, isOwn_own, isOwn_bor, addD_ii, addD_ss, addD_ll, addD_tt, subD_ii, mulD_ii, mulD_li, mulD_ti, fdivD_ii, modD_ii, powD_ii, negD_i, ltD_ii, leD_ii, gtD_ii, geD_ii, isQ_n, isQ_b, nisQ_n, isN_non, isN_bl, isN_int, isN_str, isN_tup, isN_lst, isN_rol, isN_dct, isT_int_non, isT_int_bl, isT_int_int, isT_int_str, isT_int_tup, isT_int_lst, isT_int_rol, isT_int_dct, isT_bool_non, isT_bool_bl, isT_bool_int, isT_bool_str, isT_bool_tup, isT_bool_lst, isT_bool_rol, isT_bool_dct, isT_str_non, isT_str_bl, isT_str_int, isT_str_str, isT_str_tup, isT_str_lst, isT_str_rol, isT_str_dct, isT_tuple_non, isT_tuple_bl, isT_tuple_int, isT_tuple_str, isT_tuple_tup, isT_tuple_lst, isT_tuple_rol, isT_tuple_dct, isT_list_non, isT_list_bl, isT_list_int, isT_list_str, isT_list_tup, isT_list_lst, isT_list_rol, isT_list_dct, isT_dict_non, isT_dict_bl, isT_dict_int, isT_dict_str, isT_dict_tup, isT_dict_lst, isT_dict_rol, isT_dict_dct, truQ_non, truQ_bl, truQ_int, truQ_tup, truQ_lst, blQ_bl, lenD_tup, lenD_lst, lenD_rol, lenD_str, tupD_tup, tupD_lst, lstD_tup, lstD_lst, lstD_rol, intD_i, intD_b, boolD_i, boolD_b, ixD_tup, ixD_lst, ixD_rol, slD_lst, slD_tup, intQ_i, appD_1, extD_1, lsQ_own, lsQ_bor, gTp_t, gsCons_c, seqQ_t, seqQ_l, seqQ_r, hideS_fz, hideS_own, hideS_bor, hideS_no, mmQ_ii, atI_0, atI_1, atI_2, List.map_cons, List.map_nil, List.replicate, List.cons_append, List.nil_append, List.append_nil, List.set, List.length_cons, List.length_nil, decide_eq_true_eq, if_true, if_false, Bool.not_true, Bool.not_false, Bool.false_eq_true, and_true, true_and, List.nodup_cons, List.not_mem_nil, not_false_eq_true, List.nodup_nil, List.mem_cons, or_false, List.getD])
  refine ⟨(by rw [sizeLine_eq]; omega), ?_⟩
  refine loopS (fun s => [.bor o', .fz (.int n), .fz (.tup ss), .fz (.lst od), s, s5, s6, s7, s8, s9]) (fun s => rfl) (fun s d => rfl) (fun s hs => h o' s hJ' hs) _ _ hb fun d hd => ?_
  simp only [List.mem_cons] at hd
  rcases hd with rfl | rfl | rfl | hd
  · exact y1
  · exact Yrep Yint (by rw [sizeLine_eq]; omega)
  · exact Yrep Yint (by rw [sizeLine_eq]; omega)
  · exact (hy d hd).le (by decide)
theorem wr4 {ss : List D} (hJ : J o) (hl : (ss.length : Int) = n) (h1 : n ≤ 24) (h6 : In6 ss) (hb : notBor s5 = true)
    (h : ∀ pg o', J o' → pg.length = ss.length → Ints pg → Dn.nx [.bor o', .fz (.int n), .fz (.tup ss), s3, s4, .fz (.tup pg), s6, s7, s8, s9]) :
    dSet 5 (dCall sp_zc_page ED0 (dBor 0 (dCons (dV 2) dNil))) Dn [.bor o, .fz (.int n), .fz (.tup ss), s3, s4, s5, s6, s7, s8, s9] := by
  (try simp only [dSeq, dIfS, dRet, dRetN, dNext, dSet, dSetO, dDrop, dCall, callQ, dCallKw, dCons, dNil, dBor, dsQ, dTup, dLst, dV, dC, slot, dOp, dUn, dCmp, dCmpT, dChain, dChainT, dTru, dAnd, dOr, dNot, dAndV, dOrV, dNotV, dIf, dIsi, dNoO, dSoO, dSl, bodyQ, endsOf, outsOf, lents, putB, lentQ, dAsg, gNm, gsNil, iSeq, iRng, DL.iRng2, iEnm, dLm, dLm0, dPut, dMm, dYes, hQ, isSub, hideE, pick_0, pick_10, pick_210, rep2, kg, dFor, dLc, wipeD, restD, dPar, ixN3_0, ixN3_1, ixN3_2, ex_some, dRaise_1, dHeard_e, List.set_cons_zero, List.set_cons_succ, rdQ_fz, rdQ_own, rdQ_at, rdS_fz, rdS_own, rdS_bor, frzQ_fz, frzQ_own, frzQ_at, frS_fz, frS_own, nmQ_s, nmS_fz, nmS_own, nmS_bor, retQ_fz, retQ_own, retQ_at, rtS_fz, rtS_own, argsOf_at, argsOf_d, argsOf_n, lnS_own, lnS_bor, lnS_fz, reS_o, reS_b, setF_d, setO_own, setO_fz, setO_at, notBor_fz, notBor_own, notBor_no, isOwn_own, isOwn_bor, addD_ii, addD_ss, addD_ll, addD_tt, subD_ii, mulD_ii, mulD_li, mulD_ti, fdivD_ii, modD_ii, powD_ii, negD_i, ltD_ii, leD_ii, gtD_ii, geD_ii, isQ_n, isQ_b, nisQ_n, isN_non, isN_bl, isN_int, isN_str, isN_tup, isN_lst, isN_rol, isN_dct, isT_int_non, isT_int_bl, isT_int_int, isT_int_str, isT_int_tup, isT_int_lst, isT_int_rol, isT_int_dct, isT_bool_non, isT_bool_bl, isT_bool_int, isT_bool_str, isT_bool_tup, isT_bool_lst, isT_bool_rol, isT_bool_dct, isT_str_non, isT_str_bl, isT_str_int, isT_str_str, isT_str_tup, isT_str_lst, isT_str_rol, isT_str_dct, isT_tuple_non, isT_tuple_bl, isT_tuple_int, isT_tuple_str, isT_tuple_tup, isT_tuple_lst, isT_tuple_rol, isT_tuple_dct, isT_list_non, isT_list_bl, isT_list_int, isT_list_str, isT_list_tup, isT_list_lst, isT_list_rol, isT_list_dct, isT_dict_non, isT_dict_bl, isT_dict_int, isT_dict_str, isT_dict_tup, isT_dict_lst, isT_dict_rol, isT_dict_dct, truQ_non, truQ_bl, truQ_int, truQ_tup, truQ_lst, blQ_bl, lenD_tup, lenD_lst, lenD_rol, lenD_str, tupD_tup, tupD_lst, lstD_tup, lstD_lst, lstD_rol, intD_i, intD_b, boolD_i, boolD_b, ixD_tup, ixD_lst, ixD_rol, slD_lst, slD_tup, intQ_i, appD_1, extD_1, lsQ_own, lsQ_bor, gTp_t, gsCons_c, seqQ_t, seqQ_l, seqQ_r, hideS_fz, hideS_own, hideS_bor, hideS_no, mmQ_ii, atI_0, atI_1, atI_2, List.map_cons, List.map_nil, List.replicate, List.cons_append, List.nil_append, List.append_nil, List.set, List.length_cons, List.length_nil, decide_eq_true_eq, if_true, if_false, Bool.not_true, Bool.not_false, Bool.false_eq_true, and_true, true_and, List.nodup_cons, List.not_mem_nil, not_false_eq_true, List.nodup_nil, List.mem_cons, or_false, List.getD])
  refine ⟨(by simp [lents, slot, Sl.isOwn]), w_zc_page hJ h6 (by omega) fun pg o' hJ' hp hi => ?_⟩
  (try simp only [dSeq, dIfS, dRet, dRetN, dNext, dSet, dSetO, dDrop, dCall, callQ, dCallKw, dCons, dNil, dBor, dsQ, dTup, dLst, dV, dC, slot, dOp, dUn, dCmp, dCmpT, dChain, dChainT, dTru, dAnd, dOr, dNot, dAndV, dOrV, dNotV, dIf, dIsi, dNoO, dSoO, dSl, bodyQ, endsOf, outsOf, lents, putB, lentQ, dAsg, gNm, gsNil, iSeq, iRng, DL.iRng2, iEnm, dLm, dLm0, dPut, dMm, dYes, hQ, isSub, hideE, pick_0, pick_10, pick_210, rep2, kg, dFor, dLc, wipeD, restD, dPar, ixN3_0, ixN3_1, ixN3_2, ex_some, dRaise_1, dHeard_e, List.set_cons_zero, List.set_cons_succ, rdQ_fz, rdQ_own, rdQ_at, rdS_fz, rdS_own, rdS_bor, frzQ_fz, frzQ_own, frzQ_at, frS_fz, frS_own, nmQ_s, nmS_fz, nmS_own, nmS_bor, retQ_fz, retQ_own, retQ_at, rtS_fz, rtS_own, argsOf_at, argsOf_d, argsOf_n, lnS_own, lnS_bor, lnS_fz, reS_o, reS_b, setF_d, setO_own, setO_fz, setO_at, notBor_fz, notBor_own, notBor_no, isOwn_own, isOwn_bor, addD_ii, addD_ss, addD_ll, addD_tt, subD_ii, mulD_ii, mulD_li, mulD_ti, fdivD_ii, modD_ii, powD_ii, negD_i, ltD_ii, leD_ii, gtD_ii, geD_ii, isQ_n, isQ_b, nisQ_n, isN_non, isN_bl, isN_int, isN_str, isN_tup, isN_lst, isN_rol, isN_dct, isT_int_non, isT_int_bl, isT_int_int, isT_int_str, isT_int_tup, isT_int_lst, isT_int_rol, isT_int_dct, isT_bool_non, isT_bool_bl, isT_bool_int, isT_bool_str, isT_bool_tup, isT_bool_lst, isT_bool_rol, isT_bool_dct, isT_str_non, isT_str_bl, isT_str_int, isT_str_str, isT_str_tup, isT_str_lst, isT_str_rol, isT_str_dct, isT_tuple_non, isT_tuple_bl, isT_tuple_int, isT_tuple_str, isT_tuple_tup, isT_tuple_lst, isT_tuple_rol, isT_tuple_dct, isT_list_non, isT_list_bl, isT_list_int, isT_list_str, isT_list_tup, isT_list_lst, isT_list_rol, isT_list_dct, isT_dict_non, isT_dict_bl, isT_dict_int, isT_dict_str, isT_dict_tup, isT_dict_lst, isT_dict_rol, isT_dict_dct, truQ_non, truQ_bl, truQ_int, truQ_tup, truQ_lst, blQ_bl, lenD_tup, lenD_lst, lenD_rol, lenD_str, tupD_tup, tupD_lst, lstD_tup, lstD_lst, lstD_rol, intD_i, intD_b, boolD_i, boolD_b, ixD_tup, ixD_lst, ixD_rol, slD_lst, slD_tup, intQ_i, appD_1, extD_1, lsQ_own, lsQ_bor, gTp_t, gsCons_c, seqQ_t, seqQ_l, seqQ_r, hideS_fz, hideS_own, hideS_bor, hideS_no, mmQ_ii, atI_0, atI_1, atI_2, List.map_cons, List.map_nil, List.replicate, List.cons_append, List.nil_append, List.append_nil, List.set, List.length_cons, List.length_nil, decide_eq_true_eq, if_true, if_false, Bool.not_true, Bool.not_false, Bool.false_eq_true, and_true, true_and, List.nodup_cons, List.not_mem_nil, not_false_eq_true, List.nodup_nil, List.mem_cons, or_false, List.getD, hb])
  exact h pg o' hJ' hp hi
theorem wr5 {ss : List D} (hJ : J o) (hl : (ss.length : Int) = n) (h0 : 1 ≤ n) (h1 : n ≤ 24) (h6 : In6 ss) (hb : notBor s6 = true)
    (h : ∀ wo o', J o' → (∀ d ∈ wo, Y 41 d) → wo.length = 12 → Dn.nx [.bor o', .fz (.int n), .fz (.tup ss), s3, s4, s5, .fz (.lst wo), s7, s8, s9]) :
    dSet 6 (dLst (dCons (dUn negD (dC (.int 1))) (dCons (dC .non) (dCons (dC (.str "0")) (dCons (dC (.bl true)) (dCons (dC (.bl false)) (dCons (dTup (dCons (dC (.int 0)) dNil)) (dCons (dLst (dCons (dC (.int 0)) dNil)) (dCons (dOp powD (dC (.int 10)) (dC (.int 30))) (dCons (dC (.int 6)) (dCons (dC (.int 0)) (dCons (dCall sp_one ED0 (dBor 0 (dCons (dV 2) dNil))) (dCons (dCall sp_deep ED0 (dBor 0 (dCons (dC (.int 0)) dNil))) dNil)))))))))))))
      Dn [.bor o, .fz (.int n), .fz (.tup ss), s3, s4, s5, s6, s7, s8, s9] := by
  refine set_i (lstP (F := fun ta => dCons (dUn negD (dC (.int 1))) (dCons (dC .non) (dCons (dC (.str "0")) (dCons (dC (.bl true)) (dCons (dC (.bl false)) (dCons (dTup (dCons (dC (.int 0)) dNil)) (dCons (dLst (dCons (dC (.int 0)) dNil)) (dCons (dOp powD (dC (.int 10)) (dC (.int 30))) (dCons (dC (.int 6)) (dCons (dC (.int 0)) ta))))))))))
    (.cons .neg (.cons .c (.cons .c (.cons .c (.cons .c (.cons (.tup (.cons .c .nil) l1000) (.cons (.lst (.cons .c .nil) l1000) (.cons (.pow ⟨by decide, by decide, by decide⟩) (.cons .c (.cons .c .nil)))))))))) ?_)
  (try simp only [dSeq, dIfS, dRet, dRetN, dNext, dSet, dSetO, dDrop, dCall, callQ, dCallKw, dCons, dNil, dBor, dsQ, dTup, dLst, dV, dC, slot, dOp, dUn, dCmp, dCmpT, dChain, dChainT, dTru, dAnd, dOr, dNot, dAndV, dOrV, dNotV, dIf, dIsi, dNoO, dSoO, dSl, bodyQ, endsOf, outsOf, lents, putB, lentQ, dAsg, gNm, gsNil, iSeq, iRng, DL.iRng2, iEnm, dLm, dLm0, dPut, dMm, dYes, hQ, isSub, hideE, pick_0, pick_10, pick_210, rep2, kg, dFor, dLc, wipeD, restD, dPar, ixN3_0, ixN3_1, ixN3_2, ex_some, dRaise_1, dHeard_e, List.set_cons_zero, List.set_cons_succ, rdQ_fz, rdQ_own, rdQ_at, rdS_fz, rdS_own, rdS_bor, frzQ_fz, frzQ_own, frzQ_at, frS_fz, frS_own, nmQ_s, nmS_fz, nmS_own, nmS_bor, retQ_fz, retQ_own, retQ_at, rtS_fz, rtS_own, argsOf_at, argsOf_d, argsOf_n, lnS_own, lnS_bor, lnS_fz, reS_o, reS_b, setF_d, setO_own, setO_fz, setO_at, notBor_fz, notBor_own, notBor_no, isOwn_own, isOwn_bor, addD_ii, addD_ss, addD_ll, addD_tt, subD_ii, mulD_ii, mulD_li, mulD_ti, fdivD_ii, modD_ii, powD_ii, negD_i, ltD_ii, leD_ii, gtD_ii, geD_ii, isQ_n, isQ_b, nisQ_n, isN_non, isN_bl, isN_int, isN_str, isN_tup, isN_lst, isN_rol, isN_dct, isT_int_non, isT_int_bl, isT_int_int, isT_int_str, isT_int_tup, isT_int_lst, isT_int_rol, isT_int_dct, isT_bool_non, isT_bool_bl, isT_bool_int, isT_bool_str, isT_bool_tup, isT_bool_lst, isT_bool_rol, isT_bool_dct, isT_str_non, isT_str_bl, isT_str_int, isT_str_str, isT_str_tup, isT_str_lst, isT_str_rol, isT_str_dct, isT_tuple_non, isT_tuple_bl, isT_tuple_int, isT_tuple_str, isT_tuple_tup, isT_tuple_lst, isT_tuple_rol, isT_tuple_dct, isT_list_non, isT_list_bl, isT_list_int, isT_list_str, isT_list_tup, isT_list_lst, isT_list_rol, isT_list_dct, isT_dict_non, isT_dict_bl, isT_dict_int, isT_dict_str, isT_dict_tup, isT_dict_lst, isT_dict_rol, isT_dict_dct, truQ_non, truQ_bl, truQ_int, truQ_tup, truQ_lst, blQ_bl, lenD_tup, lenD_lst, lenD_rol, lenD_str, tupD_tup, tupD_lst, lstD_tup, lstD_lst, lstD_rol, intD_i, intD_b, boolD_i, boolD_b, ixD_tup, ixD_lst, ixD_rol, slD_lst, slD_tup, intQ_i, appD_1, extD_1, lsQ_own, lsQ_bor, gTp_t, gsCons_c, seqQ_t, seqQ_l, seqQ_r, hideS_fz, hideS_own, hideS_bor, hideS_no, mmQ_ii, atI_0, atI_1, atI_2, List.map_cons, List.map_nil, List.replicate, List.cons_append, List.nil_append, List.append_nil, List.set, List.length_cons, List.length_nil, decide_eq_true_eq, if_true, if_false, Bool.not_true, Bool.not_false, Bool.false_eq_true, and_true, true_and, List.nodup_cons, List.not_mem_nil, not_false_eq_true, List.nodup_nil, List.mem_cons, or_false, List.getD])
  refine ⟨(by simp [lents, slot, Sl.isOwn]), w_oneT hJ (rp hl h0) (by omega) fun x hx o1 hJ1 => ?_⟩
  (try simp only [dSeq, dIfS, dRet, dRetN, dNext, dSet, dSetO, dDrop, dCall, callQ, dCallKw, dCons, dNil, dBor, dsQ, dTup, dLst, dV, dC, slot, dOp, dUn, dCmp, dCmpT, dChain, dChainT, dTru, dAnd, dOr, dNot, dAndV, dOrV, dNotV, dIf, dIsi, dNoO, dSoO, dSl, bodyQ, endsOf, outsOf, lents, putB, lentQ, dAsg, gNm, gsNil, iSeq, iRng, DL.iRng2, iEnm, dLm, dLm0, dPut, dMm, dYes, hQ, isSub, hideE, pick_0, pick_10, pick_210, rep2, kg, dFor, dLc, wipeD, restD, dPar, ixN3_0, ixN3_1, ixN3_2, ex_some, dRaise_1, dHeard_e, List.set_cons_zero, List.set_cons_succ, rdQ_fz, rdQ_own, rdQ_at, rdS_fz, rdS_own, rdS_bor, frzQ_fz, frzQ_own, frzQ_at, frS_fz, frS_own, nmQ_s, nmS_fz, nmS_own, nmS_bor, retQ_fz, retQ_own, retQ_at, rtS_fz, rtS_own, argsOf_at, argsOf_d, argsOf_n, lnS_own, lnS_bor, lnS_fz, reS_o, reS_b, setF_d, setO_own, setO_fz, setO_at, notBor_fz, notBor_own, notBor_no, isOwn_own, isOwn_bor, addD_ii, addD_ss, addD_ll, addD_tt, subD_ii, mulD_ii, mulD_li, mulD_ti, fdivD_ii, modD_ii, powD_ii, negD_i, ltD_ii, leD_ii, gtD_ii, geD_ii, isQ_n, isQ_b, nisQ_n, isN_non, isN_bl, isN_int, isN_str, isN_tup, isN_lst, isN_rol, isN_dct, isT_int_non, isT_int_bl, isT_int_int, isT_int_str, isT_int_tup, isT_int_lst, isT_int_rol, isT_int_dct, isT_bool_non, isT_bool_bl, isT_bool_int, isT_bool_str, isT_bool_tup, isT_bool_lst, isT_bool_rol, isT_bool_dct, isT_str_non, isT_str_bl, isT_str_int, isT_str_str, isT_str_tup, isT_str_lst, isT_str_rol, isT_str_dct, isT_tuple_non, isT_tuple_bl, isT_tuple_int, isT_tuple_str, isT_tuple_tup, isT_tuple_lst, isT_tuple_rol, isT_tuple_dct, isT_list_non, isT_list_bl, isT_list_int, isT_list_str, isT_list_tup, isT_list_lst, isT_list_rol, isT_list_dct, isT_dict_non, isT_dict_bl, isT_dict_int, isT_dict_str, isT_dict_tup, isT_dict_lst, isT_dict_rol, isT_dict_dct, truQ_non, truQ_bl, truQ_int, truQ_tup, truQ_lst, blQ_bl, lenD_tup, lenD_lst, lenD_rol, lenD_str, tupD_tup, tupD_lst, lstD_tup, lstD_lst, lstD_rol, intD_i, intD_b, boolD_i, boolD_b, ixD_tup, ixD_lst, ixD_rol, slD_lst, slD_tup, intQ_i, appD_1, extD_1, lsQ_own, lsQ_bor, gTp_t, gsCons_c, seqQ_t, seqQ_l, seqQ_r, hideS_fz, hideS_own, hideS_bor, hideS_no, mmQ_ii, atI_0, atI_1, atI_2, List.map_cons, List.map_nil, List.replicate, List.cons_append, List.nil_append, List.append_nil, List.set, List.length_cons, List.length_nil, decide_eq_true_eq, if_true, if_false, Bool.not_true, Bool.not_false, Bool.false_eq_true, and_true, true_and, List.nodup_cons, List.not_mem_nil, not_false_eq_true, List.nodup_nil, List.mem_cons, or_false, List.getD])
  refine ⟨(by simp [lents, slot, Sl.isOwn]), w_deep (m := 0) hJ1 Yint fun e o' hJ' hy => ?_⟩
  (try simp only [dSeq, dIfS, dRet, dRetN, dNext, dSet, dSetO, dDrop, dCall, callQ, dCallKw, dCons, dNil, dBor, dsQ, dTup, dLst, dV, dC, slot, dOp, dUn, dCmp, dCmpT, dChain, dChainT, dTru, dAnd, dOr, dNot, dAndV, dOrV, dNotV, dIf, dIsi, dNoO, dSoO, dSl, bodyQ, endsOf, outsOf, lents, putB, lentQ, dAsg, gNm, gsNil, iSeq, iRng, DL.iRng2, iEnm, dLm, dLm0, dPut, dMm, dYes, hQ, isSub, hideE, pick_0, pick_10, pick_210, rep2, kg, dFor, dLc, wipeD, restD, dPar, ixN3_0, ixN3_1, ixN3_2, ex_some, dRaise_1, dHeard_e, List.set_cons_zero, List.set_cons_succ, rdQ_fz, rdQ_own, rdQ_at, rdS_fz, rdS_own, rdS_bor, frzQ_fz, frzQ_own, frzQ_at, frS_fz, frS_own, nmQ_s, nmS_fz, nmS_own, nmS_bor, retQ_fz, retQ_own, retQ_at, rtS_fz, rtS_own, argsOf_at, argsOf_d, argsOf_n, lnS_own, lnS_bor, lnS_fz, reS_o, reS_b, setF_d, setO_own, setO_fz, setO_at, notBor_fz, notBor_own, notBor_no, isOwn_own, isOwn_bor, addD_ii, addD_ss, addD_ll, addD_tt, subD_ii, mulD_ii, mulD_li, mulD_ti, fdivD_ii, modD_ii, powD_ii, negD_i, ltD_ii, leD_ii, gtD_ii, geD_ii, isQ_n, isQ_b, nisQ_n, isN_non, isN_bl, isN_int, isN_str, isN_tup, isN_lst, isN_rol, isN_dct, isT_int_non, isT_int_bl, isT_int_int, isT_int_str, isT_int_tup, isT_int_lst, isT_int_rol, isT_int_dct, isT_bool_non, isT_bool_bl, isT_bool_int, isT_bool_str, isT_bool_tup, isT_bool_lst, isT_bool_rol, isT_bool_dct, isT_str_non, isT_str_bl, isT_str_int, isT_str_str, isT_str_tup, isT_str_lst, isT_str_rol, isT_str_dct, isT_tuple_non, isT_tuple_bl, isT_tuple_int, isT_tuple_str, isT_tuple_tup, isT_tuple_lst, isT_tuple_rol, isT_tuple_dct, isT_list_non, isT_list_bl, isT_list_int, isT_list_str, isT_list_tup, isT_list_lst, isT_list_rol, isT_list_dct, isT_dict_non, isT_dict_bl, isT_dict_int, isT_dict_str, isT_dict_tup, isT_dict_lst, isT_dict_rol, isT_dict_dct, truQ_non, truQ_bl, truQ_int, truQ_tup, truQ_lst, blQ_bl, lenD_tup, lenD_lst, lenD_rol, lenD_str, tupD_tup, tupD_lst, lstD_tup, lstD_lst, lstD_rol, intD_i, intD_b, boolD_i, boolD_b, ixD_tup, ixD_lst, ixD_rol, slD_lst, slD_tup, intQ_i, appD_1, extD_1, lsQ_own, lsQ_bor, gTp_t, gsCons_c, seqQ_t, seqQ_l, seqQ_r, hideS_fz, hideS_own, hideS_bor, hideS_no, mmQ_ii, atI_0, atI_1, atI_2, List.map_cons, List.map_nil, List.replicate, List.cons_append, List.nil_append, List.append_nil, List.set, List.length_cons, List.length_nil, decide_eq_true_eq, if_true, if_false, Bool.not_true, Bool.not_false, Bool.false_eq_true, and_true, true_and, List.nodup_cons, List.not_mem_nil, not_false_eq_true, List.nodup_nil, List.mem_cons, or_false, List.getD, hb])
  refine ⟨(by rw [sizeLine_eq]; omega), h _ o' hJ' (fun d hd => ?_) rfl⟩
  simp only [List.mem_cons, List.not_mem_nil, or_false] at hd
  rcases hd with rfl | rfl | rfl | rfl | rfl | rfl | rfl | rfl | rfl | rfl | rfl | rfl
  · exact Yint
  · exact Ynon
  · exact Ystr ⟨by rw [sizeLine_eq]; decide, by decide +kernel⟩
  · exact Ybo
  · exact Ybo
  · exact Y.tupOf l1000 fun d hd => by rw [List.mem_singleton] at hd; rw [hd]; exact Yint
  · exact Y.lstOf l1000 fun d hd => by rw [List.mem_singleton] at hd; rw [hd]; exact Yint
  · exact Yint
  · exact Yint
  · exact Yint
  · exact h6.ints.y _ hx
  · exact hy.le (by decide)
theorem wr6 {ss : List D} (hJ : J o) (hl : (ss.length : Int) = n) (h1 : n ≤ 24) (h6 : In6 ss) (hb : notBor s7 = true) (hb9 : notBor s9 = true)
    (h : ∀ tp, tp.length = ss.length → Ints tp → Dn.nx [.bor o, .fz (.int n), .fz (.tup ss), s3, s4, s5, s6, .fz (.tup tp), s8, s9]) :
    dSet 7 (dUn tupD (dLc (iSeq (dV 2)) (gNm 9) dYes (dOp subD (dV 9) (dC (.int 1))) [9])) Dn [.bor o, .fz (.int n), .fz (.tup ss), s3, s4, s5, s6, s7, s8, s9] := by
  (try simp only [dSeq, dIfS, dRet, dRetN, dNext, dSet, dSetO, dDrop, dCall, callQ, dCallKw, dCons, dNil, dBor, dsQ, dTup, dLst, dV, dC, slot, dOp, dUn, dCmp, dCmpT, dChain, dChainT, dTru, dAnd, dOr, dNot, dAndV, dOrV, dNotV, dIf, dIsi, dNoO, dSoO, dSl, bodyQ, endsOf, outsOf, lents, putB, lentQ, dAsg, gNm, gsNil, iSeq, iRng, DL.iRng2, iEnm, dLm, dLm0, dPut, dMm, dYes, hQ, isSub, hideE, pick_0, pick_10, pick_210, rep2, kg, dFor, dLc, wipeD, restD, dPar, ixN3_0, ixN3_1, ixN3_2, ex_some, dRaise_1, dHeard_e, List.set_cons_zero, List.set_cons_succ, rdQ_fz, rdQ_own, rdQ_at, rdS_fz, rdS_own, rdS_bor, frzQ_fz, frzQ_own, frzQ_at, frS_fz, frS_own, nmQ_s, nmS_fz, nmS_own, nmS_bor, retQ_fz, retQ_own, retQ_at, rtS_fz, rtS_own, argsOf_at, argsOf_d, argsOf_n, lnS_own, lnS_bor, lnS_fz, reS_o, reS_b, setF_d, setO_own, setO_fz, setO_at, notBor_fz, notBor_own, notBor_no, isOwn_own, isOwn_bor, addD_ii, addD_ss, addD_ll, addD_tt, subD_ii, mulD_ii, mulD_li, mulD_ti, fdivD_ii, modD_ii, powD_ii, negD_i, ltD_ii, leD_ii, gtD_ii, geD_ii, isQ_n, isQ_b, nisQ_n, isN_non, isN_bl, isN_int, isN_str, isN_tup, isN_lst, isN_rol, isN_dct, isT_int_non, isT_int_bl, isT_int_int, isT_int_str, isT_int_tup, isT_int_lst, isT_int_rol, isT_int_dct, isT_bool_non, isT_bool_bl, isT_bool_int, isT_bool_str, isT_bool_tup, isT_bool_lst, isT_bool_rol, isT_bool_dct, isT_str_non, isT_str_bl, isT_str_int, isT_str_str, isT_str_tup, isT_str_lst, isT_str_rol, isT_str_dct, isT_tuple_non, isT_tuple_bl, isT_tuple_int, isT_tuple_str, isT_tuple_tup, isT_tuple_lst, isT_tuple_rol, isT_tuple_dct, isT_list_non, isT_list_bl, isT_list_int, isT_list_str, isT_list_tup, isT_list_lst, isT_list_rol, isT_list_dct, isT_dict_non, isT_dict_bl, isT_dict_int, isT_dict_str, isT_dict_tup, isT_dict_lst, isT_dict_rol, isT_dict_dct, truQ_non, truQ_bl, truQ_int, truQ_tup, truQ_lst, blQ_bl, lenD_tup, lenD_lst, lenD_rol, lenD_str, tupD_tup, tupD_lst, lstD_tup, lstD_lst, lstD_rol, intD_i, intD_b, boolD_i, boolD_b, ixD_tup, ixD_lst, ixD_rol, slD_lst, slD_tup, intQ_i, appD_1, extD_1, lsQ_own, lsQ_bor, gTp_t, gsCons_c, seqQ_t, seqQ_l, seqQ_r, hideS_fz, hideS_own, hideS_bor, hideS_no, mmQ_ii, atI_0, atI_1, atI_2, List.map_cons, List.map_nil, List.replicate, List.cons_append, List.nil_append, List.append_nil, List.set, List.length_cons, List.length_nil, decide_eq_true_eq, if_true, if_false, Bool.not_true, Bool.not_false, Bool.false_eq_true, and_true, true_and, List.nodup_cons, List.not_mem_nil, not_false_eq_true, List.nodup_nil, List.mem_cons, or_false, List.getD])
  refine ⟨by simp [wipeOk, slot, hb9], ?_⟩
  refine lcL_ind (Inv := fun rest acc η => η = [.bor o, .fz (.int n), .fz (.tup ss), s3, s4, s5, s6, s7, s8, .no] ∧ acc.length + rest.length = ss.length ∧ In6 rest ∧ Ints acc) ?_ ?_ _ _ _ ⟨by (try simp only [dSeq, dIfS, dRet, dRetN, dNext, dSet, dSetO, dDrop, dCall, callQ, dCallKw, dCons, dNil, dBor, dsQ, dTup, dLst, dV, dC, slot, dOp, dUn, dCmp, dCmpT, dChain, dChainT, dTru, dAnd, dOr, dNot, dAndV, dOrV, dNotV, dIf, dIsi, dNoO, dSoO, dSl, bodyQ, endsOf, outsOf, lents, putB, lentQ, dAsg, gNm, gsNil, iSeq, iRng, DL.iRng2, iEnm, dLm, dLm0, dPut, dMm, dYes, hQ, isSub, hideE, pick_0, pick_10, pick_210, rep2, kg, dFor, dLc, wipeD, restD, dPar, ixN3_0, ixN3_1, ixN3_2, ex_some, dRaise_1, dHeard_e, List.set_cons_zero, List.set_cons_succ, rdQ_fz, rdQ_own, rdQ_at, rdS_fz, rdS_own, rdS_bor, frzQ_fz, frzQ_own, frzQ_at, frS_fz, frS_own, nmQ_s, nmS_fz, nmS_own, nmS_bor, retQ_fz, retQ_own, retQ_at, rtS_fz, rtS_own, argsOf_at, argsOf_d, argsOf_n, lnS_own, lnS_bor, lnS_fz, reS_o, reS_b, setF_d, setO_own, setO_fz, setO_at, notBor_fz, notBor_own, notBor_no, isOwn_own, isOwn_bor, addD_ii, addD_ss, addD_ll, addD_tt, subD_ii, mulD_ii, mulD_li, mulD_ti, fdivD_ii, modD_ii, powD_ii, negD_i, ltD_ii, leD_ii, gtD_ii, geD_ii, isQ_n, isQ_b, nisQ_n, isN_non, isN_bl, isN_int, isN_str, isN_tup, isN_lst, isN_rol, isN_dct, isT_int_non, isT_int_bl, isT_int_int, isT_int_str, isT_int_tup, isT_int_lst, isT_int_rol, isT_int_dct, isT_bool_non, isT_bool_bl, isT_bool_int, isT_bool_str, isT_bool_tup, isT_bool_lst, isT_bool_rol, isT_bool_dct, isT_str_non, isT_str_bl, isT_str_int, isT_str_str, isT_str_tup, isT_str_lst, isT_str_rol, isT_str_dct, isT_tuple_non, isT_tuple_bl, isT_tuple_int, isT_tuple_str, isT_tuple_tup, isT_tuple_lst, isT_tuple_rol, isT_tuple_dct, isT_list_non, isT_list_bl, isT_list_int, isT_list_str, isT_list_tup, isT_list_lst, isT_list_rol, isT_list_dct, isT_dict_non, isT_dict_bl, isT_dict_int, isT_dict_str, isT_dict_tup, isT_dict_lst, isT_dict_rol, isT_dict_dct, truQ_non, truQ_bl, truQ_int, truQ_tup, truQ_lst, blQ_bl, lenD_tup, lenD_lst, lenD_rol, lenD_str, tupD_tup, tupD_lst, lstD_tup, lstD_lst, lstD_rol, intD_i, intD_b, boolD_i, boolD_b, ixD_tup, ixD_lst, ixD_rol, slD_lst, slD_tup, intQ_i, appD_1, extD_1, lsQ_own, lsQ_bor, gTp_t, gsCons_c, seqQ_t, seqQ_l, seqQ_r, hideS_fz, hideS_own, hideS_bor, hideS_no, mmQ_ii, atI_0, atI_1, atI_2, List.map_cons, List.map_nil, List.replicate, List.cons_append, List.nil_append, List.append_nil, List.set, List.length_cons, List.length_nil, decide_eq_true_eq, if_true, if_false, Bool.not_true, Bool.not_false, Bool.false_eq_true, and_true, true_and, List.nodup_cons, List.not_mem_nil, not_false_eq_true, List.nodup_nil, List.mem_cons, or_false, List.getD]), by simp, h6, fun d hd => by cases hd⟩
  · rintro acc η ⟨rfl, r3, r4, r5⟩
    (try simp only [dSeq, dIfS, dRet, dRetN, dNext, dSet, dSetO, dDrop, dCall, callQ, dCallKw, dCons, dNil, dBor, dsQ, dTup, dLst, dV, dC, slot, dOp, dUn, dCmp, dCmpT, dChain, dChainT, dTru, dAnd, dOr, dNot, dAndV, dOrV, dNotV, dIf, dIsi, dNoO, dSoO, dSl, bodyQ, endsOf, outsOf, lents, putB, lentQ, dAsg, gNm, gsNil, iSeq, iRng, DL.iRng2, iEnm, dLm, dLm0, dPut, dMm, dYes, hQ, isSub, hideE, pick_0, pick_10, pick_210, rep2, kg, dFor, dLc, wipeD, restD, dPar, ixN3_0, ixN3_1, ixN3_2, ex_some, dRaise_1, dHeard_e, List.set_cons_zero, List.set_cons_succ, rdQ_fz, rdQ_own, rdQ_at, rdS_fz, rdS_own, rdS_bor, frzQ_fz, frzQ_own, frzQ_at, frS_fz, frS_own, nmQ_s, nmS_fz, nmS_own, nmS_bor, retQ_fz, retQ_own, retQ_at, rtS_fz, rtS_own, argsOf_at, argsOf_d, argsOf_n, lnS_own, lnS_bor, lnS_fz, reS_o, reS_b, setF_d, setO_own, setO_fz, setO_at, notBor_fz, notBor_own, notBor_no, isOwn_own, isOwn_bor, addD_ii, addD_ss, addD_ll, addD_tt, subD_ii, mulD_ii, mulD_li, mulD_ti, fdivD_ii, modD_ii, powD_ii, negD_i, ltD_ii, leD_ii, gtD_ii, geD_ii, isQ_n, isQ_b, nisQ_n, isN_non, isN_bl, isN_int, isN_str, isN_tup, isN_lst, isN_rol, isN_dct, isT_int_non, isT_int_bl, isT_int_int, isT_int_str, isT_int_tup, isT_int_lst, isT_int_rol, isT_int_dct, isT_bool_non, isT_bool_bl, isT_bool_int, isT_bool_str, isT_bool_tup, isT_bool_lst, isT_bool_rol, isT_bool_dct, isT_str_non, isT_str_bl, isT_str_int, isT_str_str, isT_str_tup, isT_str_lst, isT_str_rol, isT_str_dct, isT_tuple_non, isT_tuple_bl, isT_tuple_int, isT_tuple_str, isT_tuple_tup, isT_tuple_lst, isT_tuple_rol, isT_tuple_dct, isT_list_non, isT_list_bl, isT_list_int, isT_list_str, isT_list_tup, isT_list_lst, isT_list_rol, isT_list_dct, isT_dict_non, isT_dict_bl, isT_dict_int, isT_dict_str, isT_dict_tup, isT_dict_lst, isT_dict_rol, isT_dict_dct, truQ_non, truQ_bl, truQ_int, truQ_tup, truQ_lst, blQ_bl, lenD_tup, lenD_lst, lenD_rol, lenD_str, tupD_tup, tupD_lst, lstD_tup, lstD_lst, lstD_rol, intD_i, intD_b, boolD_i, boolD_b, ixD_tup, ixD_lst, ixD_rol, slD_lst, slD_tup, intQ_i, appD_1, extD_1, lsQ_own, lsQ_bor, gTp_t, gsCons_c, seqQ_t, seqQ_l, seqQ_r, hideS_fz, hideS_own, hideS_bor, hideS_no, mmQ_ii, atI_0, atI_1, atI_2, List.map_cons, List.map_nil, List.replicate, List.cons_append, List.nil_append, List.append_nil, List.set, List.length_cons, List.length_nil, decide_eq_true_eq, if_true, if_false, Bool.not_true, Bool.not_false, Bool.false_eq_true, and_true, true_and, List.nodup_cons, List.not_mem_nil, not_false_eq_true, List.nodup_nil, List.mem_cons, or_false, List.getD, hb])
    exact h _ (by simpa using r3) r5
  · rintro d rest acc η K ⟨rfl, r3, r4, r5⟩ hK
    obtain ⟨x, rfl, x1, x2⟩ := r4 d List.mem_cons_self
    (try simp only [dSeq, dIfS, dRet, dRetN, dNext, dSet, dSetO, dDrop, dCall, callQ, dCallKw, dCons, dNil, dBor, dsQ, dTup, dLst, dV, dC, slot, dOp, dUn, dCmp, dCmpT, dChain, dChainT, dTru, dAnd, dOr, dNot, dAndV, dOrV, dNotV, dIf, dIsi, dNoO, dSoO, dSl, bodyQ, endsOf, outsOf, lents, putB, lentQ, dAsg, gNm, gsNil, iSeq, iRng, DL.iRng2, iEnm, dLm, dLm0, dPut, dMm, dYes, hQ, isSub, hideE, pick_0, pick_10, pick_210, rep2, kg, dFor, dLc, wipeD, restD, dPar, ixN3_0, ixN3_1, ixN3_2, ex_some, dRaise_1, dHeard_e, List.set_cons_zero, List.set_cons_succ, rdQ_fz, rdQ_own, rdQ_at, rdS_fz, rdS_own, rdS_bor, frzQ_fz, frzQ_own, frzQ_at, frS_fz, frS_own, nmQ_s, nmS_fz, nmS_own, nmS_bor, retQ_fz, retQ_own, retQ_at, rtS_fz, rtS_own, argsOf_at, argsOf_d, argsOf_n, lnS_own, lnS_bor, lnS_fz, reS_o, reS_b, setF_d, setO_own, setO_fz, setO_at, notBor_fz, notBor_own, notBor_no, isOwn_own, isOwn_bor, addD_ii, addD_ss, addD_ll, addD_tt, subD_ii, mulD_ii, mulD_li, mulD_ti, fdivD_ii, modD_ii, powD_ii, negD_i, ltD_ii, leD_ii, gtD_ii, geD_ii, isQ_n, isQ_b, nisQ_n, isN_non, isN_bl, isN_int, isN_str, isN_tup, isN_lst, isN_rol, isN_dct, isT_int_non, isT_int_bl, isT_int_int, isT_int_str, isT_int_tup, isT_int_lst, isT_int_rol, isT_int_dct, isT_bool_non, isT_bool_bl, isT_bool_int, isT_bool_str, isT_bool_tup, isT_bool_lst, isT_bool_rol, isT_bool_dct, isT_str_non, isT_str_bl, isT_str_int, isT_str_str, isT_str_tup, isT_str_lst, isT_str_rol, isT_str_dct, isT_tuple_non, isT_tuple_bl, isT_tuple_int, isT_tuple_str, isT_tuple_tup, isT_tuple_lst, isT_tuple_rol, isT_tuple_dct, isT_list_non, isT_list_bl, isT_list_int, isT_list_str, isT_list_tup, isT_list_lst, isT_list_rol, isT_list_dct, isT_dict_non, isT_dict_bl, isT_dict_int, isT_dict_str, isT_dict_tup, isT_dict_lst, isT_dict_rol, isT_dict_dct, truQ_non, truQ_bl, truQ_int, truQ_tup, truQ_lst, blQ_bl, lenD_tup, lenD_lst, lenD_rol, lenD_str, tupD_tup, tupD_lst, lstD_tup, lstD_lst, lstD_rol, intD_i, intD_b, boolD_i, boolD_b, ixD_tup, ixD_lst, ixD_rol, slD_lst, slD_tup, intQ_i, appD_1, extD_1, lsQ_own, lsQ_bor, gTp_t, gsCons_c, seqQ_t, seqQ_l, seqQ_r, hideS_fz, hideS_own, hideS_bor, hideS_no, mmQ_ii, atI_0, atI_1, atI_2, List.map_cons, List.map_nil, List.replicate, List.cons_append, List.nil_append, List.append_nil, List.set, List.length_cons, List.length_nil, decide_eq_true_eq, if_true, if_false, Bool.not_true, Bool.not_false, Bool.false_eq_true, and_true, true_and, List.nodup_cons, List.not_mem_nil, not_false_eq_true, List.nodup_nil, List.mem_cons, or_false, List.getD])
    refine ⟨by rw [sizeLine_eq]; simp at r3; omega, by simp [wipeOk, slot, notBor], hK _ _ ⟨rfl, by simp at r3 ⊢; omega, fun e he => r4 e (List.mem_cons_of_mem _ he), fun e he => ?_⟩⟩
    rcases List.mem_append.mp he with he | he
    · exact r5 e he
    · rw [List.mem_singleton] at he; exact ⟨_, he⟩
end
end K01

set_option Elab.async false
set_option linter.all false
set_option maxRecDepth 100000
set_option maxHeartbeats 400000
namespace K01
open PySem PySem.Spec PyProof.Rows L2 LamX NdefX DL
theorem rp0 {n : Int} {ds ss : List D} (hp : ds.length = ss.length) (h : (ss.length : Int) = n) (h0 : 1 ≤ n) : ds ≠ [] := fun z => by rw [z] at hp; simp at hp; rw [← hp] at h; simp at h; omega
section
variable {o : OC} {n : Int} {Dn : DEnds} {s2 s3 s4 s5 s6 s7 s8 s9 : Sl}
theorem wr7 {ss pg tp wo : List D} (hJ : J o) (h0 : 1 ≤ n) (h1 : n ≤ 24) (hl : (ss.length : Int) = n) (h6 : In6 ss) (hpl : pg.length = ss.length) (hpi : Ints pg) (htl : tp.length = ss.length) (hti : Ints tp) (hw : ∀ d ∈ wo, Y 41 d) (hwl : wo.length = 12) (hb : notBor s4 = true)
    (h : ∀ o' s, J o' → notBor s = true → Dn.nx [.bor o', .fz (.int n), .fz (.tup ss), s3, s, .fz (.tup pg), .fz (.lst wo), .fz (.tup tp), s8, s9]) :
    dFor (iSeq (dOp addD (dOp addD (dOp addD (dLst (dCons (dV 5) (dCons (dV 7) (dCons (dOp mulD (dTup (dCons (dC (.int 0)) dNil)) (dV 1)) dNil)))) (dCall sp_bent ED0 (dBor 0 (dCons (dV 5) (dCons (dV 6) dNil))))) (dCall sp_things ED0 (dBor 0 dNil))) (dLst (dCons (dV 2) dNil)))) (gNm 4) (dIfS (dNot (dTru (dCall sp_page_right ED0 (dCons (dV 2) (dCons (dV 4) dNil))))) (dRet (dC (.bl false))) dNext)
      Dn [.bor o, .fz (.int n), .fz (.tup ss), s3, s4, .fz (.tup pg), .fz (.lst wo), .fz (.tup tp), s8, s9] := by
  have ys : Y 50 (.tup ss) := Y.tupOf (by rw [sizeLine_eq]; omega) h6.ints.y
  have yp : Y 50 (.tup pg) := Y.tupOf (by rw [sizeLine_eq]; omega) hpi.y
  have yt : Y 50 (.tup tp) := Y.tupOf (by rw [sizeLine_eq]; omega) hti.y
  (try simp only [dSeq, dIfS, dRet, dRetN, dNext, dSet, dSetO, dDrop, dCall, callQ, dCallKw, dCons, dNil, dBor, dsQ, dTup, dLst, dV, dC, slot, dOp, dUn, dCmp, dCmpT, dChain, dChainT, dTru, dAnd, dOr, dNot, dAndV, dOrV, dNotV, dIf, dIsi, dNoO, dSoO, dSl, bodyQ, endsOf, outsOf, lents, putB, lentQ, dAsg, gNm, gsNil, iSeq, iRng, DL.iRng2, iEnm, dLm, dLm0, dPut, dMm, dYes, hQ, isSub, hideE, pick_0, pick_10, pick_210, rep2, kg, dFor, dLc, wipeD, restD, dPar, ixN3_0, ixN3_1, ixN3_2, ex_some, dRaise_1, dHeard_e, List.set_cons_zero, List.set_cons_succ, rdQ_fz, rdQ_own, rdQ_at, rdS_fz, rdS_own, rdS_bor, frzQ_fz, frzQ_own, frzQ_at, frS_fz, frS_own, nmQ_s, nmS_fz, nmS_own, nmS_bor, retQ_fz, retQ_own, retQ_at, rtS_fz, rtS_own, argsOf_at, argsOf_d, argsOf_n, lnS_own, lnS_bor, lnS_fz, reS_o, reS_b, setF_d, setO_own, setO_fz, setO_at, notBor_fz, notBor_own, notBor_no, isOwn_own, isOwn_bor, addD_ii, addD_ss, addD_ll, addD_tt, subD_ii, mulD_ii, mulD_li, mulD_ti, fdivD_ii, modD_ii, powD_ii, negD_i, ltD_ii, leD_ii, gtD_ii, geD_ii, isQ_n, isQ_b, nisQ_n, isN_non, isN_bl, isN_int, isN_str, isN_tup, isN_lst, isN_rol, isN_dct, isT_int_non, isT_int_bl, isT_int_int, isT_int_str, isT_int_tup, isT_int_lst, isT_int_rol, isT_int_dct, isT_bool_non, isT_bool_bl, isT_bool_int, isT_bool_str, isT_bool_tup, isT_bool_lst, isT_bool_rol, isT_bool_dct, isT_str_non, isT_str_bl, isT_str_int, isT_str_str, isT_str_tup, isT_str_lst, isT_str_rol, isT_str_dct, isT_tuple_non, isT_tuple_bl, isT_tuple_int, isT_tuple_str, isT_tuple_tup, isT_tuple_lst, isT_tuple_rol, isT_tuple_dct, isT_list_non, isT_list_bl, isT_list_int, isT_list_str, isT_list_tup, isT_list_lst, isT_list_rol, isT_list_dct, isT_dict_non, isT_dict_bl, isT_dict_int, isT_dict_str, isT_dict_tup, isT_dict_lst, isT_dict_rol, isT_dict_dct, truQ_non, truQ_bl, truQ_int, truQ_tup, truQ_lst, blQ_bl, lenD_tup, lenD_lst, lenD_rol, lenD_str, tupD_tup, tupD_lst, lstD_tup, lstD_lst, lstD_rol, intD_i, intD_b, boolD_i, boolD_b, ixD_tup, ixD_lst, ixD_rol, slD_lst, slD_tup, intQ_i, appD_1, extD_1, lsQ_own, lsQ_bor, gTp_t, gsCons_c, seqQ_t, seqQ_l, seqQ_r, hideS_fz, hideS_own, hideS_bor, hideS_no, mmQ_ii, atI_0, atI_1, atI_2, List.map_cons, List.map_nil, List.replicate, List.cons_append, List.nil_append, List.append_nil, List.set, List.length_cons, List.length_nil, decide_eq_true_eq, if_true, if_false, Bool.not_true, Bool.not_false, Bool.false_eq_true, and_true, true_and, List.nodup_cons, List.not_mem_nil, not_false_eq_true, List.nodup_nil, List.mem_cons, or_false, List.getD])
  refine ⟨(by rw [sizeLine_eq]; omega), ⟨by simp, by omega, by omega, by decide⟩, (by rw [sizeLine_eq]; omega), (by simp [lents, slot, Sl.isOwn]), w_bent (m := 41) hJ (rp0 hpl hl h0) hpi.y (by omega) (by intro z; rw [z] at hwl; cases hwl) hw (by omega) fun bs o1 hJ1 hy hbl => ?_⟩
  (try simp only [dSeq, dIfS, dRet, dRetN, dNext, dSet, dSetO, dDrop, dCall, callQ, dCallKw, dCons, dNil, dBor, dsQ, dTup, dLst, dV, dC, slot, dOp, dUn, dCmp, dCmpT, dChain, dChainT, dTru, dAnd, dOr, dNot, dAndV, dOrV, dNotV, dIf, dIsi, dNoO, dSoO, dSl, bodyQ, endsOf, outsOf, lents, putB, lentQ, dAsg, gNm, gsNil, iSeq, iRng, DL.iRng2, iEnm, dLm, dLm0, dPut, dMm, dYes, hQ, isSub, hideE, pick_0, pick_10, pick_210, rep2, kg, dFor, dLc, wipeD, restD, dPar, ixN3_0, ixN3_1, ixN3_2, ex_some, dRaise_1, dHeard_e, List.set_cons_zero, List.set_cons_succ, rdQ_fz, rdQ_own, rdQ_at, rdS_fz, rdS_own, rdS_bor, frzQ_fz, frzQ_own, frzQ_at, frS_fz, frS_own, nmQ_s, nmS_fz, nmS_own, nmS_bor, retQ_fz, retQ_own, retQ_at, rtS_fz, rtS_own, argsOf_at, argsOf_d, argsOf_n, lnS_own, lnS_bor, lnS_fz, reS_o, reS_b, setF_d, setO_own, setO_fz, setO_at, notBor_fz, notBor_own, notBor_no, isOwn_own, isOwn_bor, addD_ii, addD_ss, addD_ll, addD_tt, subD_ii, mulD_ii, mulD_li, mulD_ti, fdivD_ii, modD_ii, powD_ii, negD_i, ltD_ii, leD_ii, gtD_ii, geD_ii, isQ_n, isQ_b, nisQ_n, isN_non, isN_bl, isN_int, isN_str, isN_tup, isN_lst, isN_rol, isN_dct, isT_int_non, isT_int_bl, isT_int_int, isT_int_str, isT_int_tup, isT_int_lst, isT_int_rol, isT_int_dct, isT_bool_non, isT_bool_bl, isT_bool_int, isT_bool_str, isT_bool_tup, isT_bool_lst, isT_bool_rol, isT_bool_dct, isT_str_non, isT_str_bl, isT_str_int, isT_str_str, isT_str_tup, isT_str_lst, isT_str_rol, isT_str_dct, isT_tuple_non, isT_tuple_bl, isT_tuple_int, isT_tuple_str, isT_tuple_tup, isT_tuple_lst, isT_tuple_rol, isT_tuple_dct, isT_list_non, isT_list_bl, isT_list_int, isT_list_str, isT_list_tup, isT_list_lst, isT_list_rol, isT_list_dct, isT_dict_non, isT_dict_bl, isT_dict_int, isT_dict_str, isT_dict_tup, isT_dict_lst, isT_dict_rol, isT_dict_dct, truQ_non, truQ_bl, truQ_int, truQ_tup, truQ_lst, blQ_bl, lenD_tup, lenD_lst, lenD_rol, lenD_str, tupD_tup, tupD_lst, lstD_tup, lstD_lst, lstD_rol, intD_i, intD_b, boolD_i, boolD_b, ixD_tup, ixD_lst, ixD_rol, slD_lst, slD_tup, intQ_i, appD_1, extD_1, lsQ_own, lsQ_bor, gTp_t, gsCons_c, seqQ_t, seqQ_l, seqQ_r, hideS_fz, hideS_own, hideS_bor, hideS_no, mmQ_ii, atI_0, atI_1, atI_2, List.map_cons, List.map_nil, List.replicate, List.cons_append, List.nil_append, List.append_nil, List.set, List.length_cons, List.length_nil, decide_eq_true_eq, if_true, if_false, Bool.not_true, Bool.not_false, Bool.false_eq_true, and_true, true_and, List.nodup_cons, List.not_mem_nil, not_false_eq_true, List.nodup_nil, List.mem_cons, or_false, List.getD])
  refine ⟨(by rw [sizeLine_eq]; omega), (by simp [lents, slot, Sl.isOwn]), w_things hJ1 fun th o' hJ' hth htl2 => ?_⟩
  (try simp only [dSeq, dIfS, dRet, dRetN, dNext, dSet, dSetO, dDrop, dCall, callQ, dCallKw, dCons, dNil, dBor, dsQ, dTup, dLst, dV, dC, slot, dOp, dUn, dCmp, dCmpT, dChain, dChainT, dTru, dAnd, dOr, dNot, dAndV, dOrV, dNotV, dIf, dIsi, dNoO, dSoO, dSl, bodyQ, endsOf, outsOf, lents, putB, lentQ, dAsg, gNm, gsNil, iSeq, iRng, DL.iRng2, iEnm, dLm, dLm0, dPut, dMm, dYes, hQ, isSub, hideE, pick_0, pick_10, pick_210, rep2, kg, dFor, dLc, wipeD, restD, dPar, ixN3_0, ixN3_1, ixN3_2, ex_some, dRaise_1, dHeard_e, List.set_cons_zero, List.set_cons_succ, rdQ_fz, rdQ_own, rdQ_at, rdS_fz, rdS_own, rdS_bor, frzQ_fz, frzQ_own, frzQ_at, frS_fz, frS_own, nmQ_s, nmS_fz, nmS_own, nmS_bor, retQ_fz, retQ_own, retQ_at, rtS_fz, rtS_own, argsOf_at, argsOf_d, argsOf_n, lnS_own, lnS_bor, lnS_fz, reS_o, reS_b, setF_d, setO_own, setO_fz, setO_at, notBor_fz, notBor_own, notBor_no, isOwn_own, isOwn_bor, addD_ii, addD_ss, addD_ll, addD_tt, subD_ii, mulD_ii, mulD_li, mulD_ti, fdivD_ii, modD_ii, powD_ii, negD_i, ltD_ii, leD_ii, gtD_ii, geD_ii, isQ_n, isQ_b, nisQ_n, isN_non, isN_bl, isN_int, isN_str, isN_tup, isN_lst, isN_rol, isN_dct, isT_int_non, isT_int_bl, isT_int_int, isT_int_str, isT_int_tup, isT_int_lst, isT_int_rol, isT_int_dct, isT_bool_non, isT_bool_bl, isT_bool_int, isT_bool_str, isT_bool_tup, isT_bool_lst, isT_bool_rol, isT_bool_dct, isT_str_non, isT_str_bl, isT_str_int, isT_str_str, isT_str_tup, isT_str_lst, isT_str_rol, isT_str_dct, isT_tuple_non, isT_tuple_bl, isT_tuple_int, isT_tuple_str, isT_tuple_tup, isT_tuple_lst, isT_tuple_rol, isT_tuple_dct, isT_list_non, isT_list_bl, isT_list_int, isT_list_str, isT_list_tup, isT_list_lst, isT_list_rol, isT_list_dct, isT_dict_non, isT_dict_bl, isT_dict_int, isT_dict_str, isT_dict_tup, isT_dict_lst, isT_dict_rol, isT_dict_dct, truQ_non, truQ_bl, truQ_int, truQ_tup, truQ_lst, blQ_bl, lenD_tup, lenD_lst, lenD_rol, lenD_str, tupD_tup, tupD_lst, lstD_tup, lstD_lst, lstD_rol, intD_i, intD_b, boolD_i, boolD_b, ixD_tup, ixD_lst, ixD_rol, slD_lst, slD_tup, intQ_i, appD_1, extD_1, lsQ_own, lsQ_bor, gTp_t, gsCons_c, seqQ_t, seqQ_l, seqQ_r, hideS_fz, hideS_own, hideS_bor, hideS_no, mmQ_ii, atI_0, atI_1, atI_2, List.map_cons, List.map_nil, List.replicate, List.cons_append, List.nil_append, List.append_nil, List.set, List.length_cons, List.length_nil, decide_eq_true_eq, if_true, if_false, Bool.not_true, Bool.not_false, Bool.false_eq_true, and_true, true_and, List.nodup_cons, List.not_mem_nil, not_false_eq_true, List.nodup_nil, List.mem_cons, or_false, List.getD, List.length_append])
  refine ⟨(by rw [sizeLine_eq]; omega), (by rw [sizeLine_eq]; omega), (by rw [sizeLine_eq]; omega), ?_⟩
  refine loopP ys (fun s => [.bor o', .fz (.int n), .fz (.tup ss), s3, s, .fz (.tup pg), .fz (.lst wo), .fz (.tup tp), s8, s9]) (fun s => rfl) (fun s => rfl) (fun s d => rfl) (fun s hs => h o' s hJ' hs) _ _ hb fun d hd => ?_
  simp only [List.mem_cons, List.mem_append, List.not_mem_nil, or_false] at hd
  rcases hd with rfl | rfl | rfl | (hd | hd) | rfl
  · exact yp
  · exact yt
  · exact Yrep Yint (by rw [sizeLine_eq]; omega)
  · exact (hy d hd).le (by decide)
  · exact (hth d hd).le (by decide)
  · exact ys
theorem wr8 {ss od pg : List D} (hJ : J o) (h0 : 1 ≤ n) (h1 : n ≤ 24) (hl : (ss.length : Int) = n) (h6 : In6 ss) (hpl : pg.length = ss.length) (hpi : Ints pg) (ho : ∀ d ∈ od, Y 41 d) (hol : od.length = 13) (hb : notBor s8 = true)
    (h : ∀ o' s, J o' → notBor s = true → Dn.nx [.bor o', .fz (.int n), .fz (.tup ss), .fz (.lst od), s4, .fz (.tup pg), s6, s7, s, s9]) :
    dFor (iSeq (dOp addD (dCall sp_bent ED0 (dBor 0 (dCons (dV 2) (dCons (dV 3) dNil)))) (dLst (dCons (dC .non) (dCons (dTup dNil) (dCons (dLst (dCons (dC (.int 2)) dNil)) dNil)))))) (gNm 8) (dIfS (dNot (dTru (dCall sp_page_right ED0 (dCons (dV 8) (dCons (dCall sp_one ED0 (dBor 0 (dCons (dLst (dCons (dV 5) (dCons (dC .non) (dCons (dTup dNil) dNil)))) dNil))) dNil))))) (dRet (dC (.bl false))) dNext)
      Dn [.bor o, .fz (.int n), .fz (.tup ss), .fz (.lst od), s4, .fz (.tup pg), s6, s7, s8, s9] := by
  have yp : Y 50 (.tup pg) := Y.tupOf (by rw [sizeLine_eq]; omega) hpi.y
  (try simp only [dSeq, dIfS, dRet, dRetN, dNext, dSet, dSetO, dDrop, dCall, callQ, dCallKw, dCons, dNil, dBor, dsQ, dTup, dLst, dV, dC, slot, dOp, dUn, dCmp, dCmpT, dChain, dChainT, dTru, dAnd, dOr, dNot, dAndV, dOrV, dNotV, dIf, dIsi, dNoO, dSoO, dSl, bodyQ, endsOf, outsOf, lents, putB, lentQ, dAsg, gNm, gsNil, iSeq, iRng, DL.iRng2, iEnm, dLm, dLm0, dPut, dMm, dYes, hQ, isSub, hideE, pick_0, pick_10, pick_210, rep2, kg, dFor, dLc, wipeD, restD, dPar, ixN3_0, ixN3_1, ixN3_2, ex_some, dRaise_1, dHeard_e, List.set_cons_zero, List.set_cons_succ, rdQ_fz, rdQ_own, rdQ_at, rdS_fz, rdS_own, rdS_bor, frzQ_fz, frzQ_own, frzQ_at, frS_fz, frS_own, nmQ_s, nmS_fz, nmS_own, nmS_bor, retQ_fz, retQ_own, retQ_at, rtS_fz, rtS_own, argsOf_at, argsOf_d, argsOf_n, lnS_own, lnS_bor, lnS_fz, reS_o, reS_b, setF_d, setO_own, setO_fz, setO_at, notBor_fz, notBor_own, notBor_no, isOwn_own, isOwn_bor, addD_ii, addD_ss, addD_ll, addD_tt, subD_ii, mulD_ii, mulD_li, mulD_ti, fdivD_ii, modD_ii, powD_ii, negD_i, ltD_ii, leD_ii, gtD_ii, geD_ii, isQ_n, isQ_b, nisQ_n, isN_non, isN_bl, isN_int, isN_str, isN_tup, isN_lst, isN_rol, isN_dct, isT_int_non, isT_int_bl, isT_int_int, isT_int_str, isT_int_tup, isT_int_lst, isT_int_rol, isT_int_dct, isT_bool_non, isT_bool_bl, isT_bool_int, isT_bool_str, isT_bool_tup, isT_bool_lst, isT_bool_rol, isT_bool_dct, isT_str_non, isT_str_bl, isT_str_int, isT_str_str, isT_str_tup, isT_str_lst, isT_str_rol, isT_str_dct, isT_tuple_non, isT_tuple_bl, isT_tuple_int, isT_tuple_str, isT_tuple_tup, isT_tuple_lst, isT_tuple_rol, isT_tuple_dct, isT_list_non, isT_list_bl, isT_list_int, isT_list_str, isT_list_tup, isT_list_lst, isT_list_rol, isT_list_dct, isT_dict_non, isT_dict_bl, isT_dict_int, isT_dict_str, isT_dict_tup, isT_dict_lst, isT_dict_rol, isT_dict_dct, truQ_non, truQ_bl, truQ_int, truQ_tup, truQ_lst, blQ_bl, lenD_tup, lenD_lst, lenD_rol, lenD_str, tupD_tup, tupD_lst, lstD_tup, lstD_lst, lstD_rol, intD_i, intD_b, boolD_i, boolD_b, ixD_tup, ixD_lst, ixD_rol, slD_lst, slD_tup, intQ_i, appD_1, extD_1, lsQ_own, lsQ_bor, gTp_t, gsCons_c, seqQ_t, seqQ_l, seqQ_r, hideS_fz, hideS_own, hideS_bor, hideS_no, mmQ_ii, atI_0, atI_1, atI_2, List.map_cons, List.map_nil, List.replicate, List.cons_append, List.nil_append, List.append_nil, List.set, List.length_cons, List.length_nil, decide_eq_true_eq, if_true, if_false, Bool.not_true, Bool.not_false, Bool.false_eq_true, and_true, true_and, List.nodup_cons, List.not_mem_nil, not_false_eq_true, List.nodup_nil, List.mem_cons, or_false, List.getD])
  refine ⟨(by simp [lents, slot, Sl.isOwn]), w_bent (m := 41) hJ (rp hl h0) (h6.ints.y) (by omega) (by intro z; rw [z] at hol; cases hol) ho (by omega) fun bs o1 hJ1 hy hbl => ?_⟩
  (try simp only [dSeq, dIfS, dRet, dRetN, dNext, dSet, dSetO, dDrop, dCall, callQ, dCallKw, dCons, dNil, dBor, dsQ, dTup, dLst, dV, dC, slot, dOp, dUn, dCmp, dCmpT, dChain, dChainT, dTru, dAnd, dOr, dNot, dAndV, dOrV, dNotV, dIf, dIsi, dNoO, dSoO, dSl, bodyQ, endsOf, outsOf, lents, putB, lentQ, dAsg, gNm, gsNil, iSeq, iRng, DL.iRng2, iEnm, dLm, dLm0, dPut, dMm, dYes, hQ, isSub, hideE, pick_0, pick_10, pick_210, rep2, kg, dFor, dLc, wipeD, restD, dPar, ixN3_0, ixN3_1, ixN3_2, ex_some, dRaise_1, dHeard_e, List.set_cons_zero, List.set_cons_succ, rdQ_fz, rdQ_own, rdQ_at, rdS_fz, rdS_own, rdS_bor, frzQ_fz, frzQ_own, frzQ_at, frS_fz, frS_own, nmQ_s, nmS_fz, nmS_own, nmS_bor, retQ_fz, retQ_own, retQ_at, rtS_fz, rtS_own, argsOf_at, argsOf_d, argsOf_n, lnS_own, lnS_bor, lnS_fz, reS_o, reS_b, setF_d, setO_own, setO_fz, setO_at, notBor_fz, notBor_own, notBor_no, isOwn_own, isOwn_bor, addD_ii, addD_ss, addD_ll, addD_tt, subD_ii, mulD_ii, mulD_li, mulD_ti, fdivD_ii, modD_ii, powD_ii, negD_i, ltD_ii, leD_ii, gtD_ii, geD_ii, isQ_n, isQ_b, nisQ_n, isN_non, isN_bl, isN_int, isN_str, isN_tup, isN_lst, isN_rol, isN_dct, isT_int_non, isT_int_bl, isT_int_int, isT_int_str, isT_int_tup, isT_int_lst, isT_int_rol, isT_int_dct, isT_bool_non, isT_bool_bl, isT_bool_int, isT_bool_str, isT_bool_tup, isT_bool_lst, isT_bool_rol, isT_bool_dct, isT_str_non, isT_str_bl, isT_str_int, isT_str_str, isT_str_tup, isT_str_lst, isT_str_rol, isT_str_dct, isT_tuple_non, isT_tuple_bl, isT_tuple_int, isT_tuple_str, isT_tuple_tup, isT_tuple_lst, isT_tuple_rol, isT_tuple_dct, isT_list_non, isT_list_bl, isT_list_int, isT_list_str, isT_list_tup, isT_list_lst, isT_list_rol, isT_list_dct, isT_dict_non, isT_dict_bl, isT_dict_int, isT_dict_str, isT_dict_tup, isT_dict_lst, isT_dict_rol, isT_dict_dct, truQ_non, truQ_bl, truQ_int, truQ_tup, truQ_lst, blQ_bl, lenD_tup, lenD_lst, lenD_rol, lenD_str, tupD_tup, tupD_lst, lstD_tup, lstD_lst, lstD_rol, intD_i, intD_b, boolD_i, boolD_b, ixD_tup, ixD_lst, ixD_rol, slD_lst, slD_tup, intQ_i, appD_1, extD_1, lsQ_own, lsQ_bor, gTp_t, gsCons_c, seqQ_t, seqQ_l, seqQ_r, hideS_fz, hideS_own, hideS_bor, hideS_no, mmQ_ii, atI_0, atI_1, atI_2, List.map_cons, List.map_nil, List.replicate, List.cons_append, List.nil_append, List.append_nil, List.set, List.length_cons, List.length_nil, decide_eq_true_eq, if_true, if_false, Bool.not_true, Bool.not_false, Bool.false_eq_true, and_true, true_and, List.nodup_cons, List.not_mem_nil, not_false_eq_true, List.nodup_nil, List.mem_cons, or_false, List.getD])
  refine ⟨(by rw [sizeLine_eq]; omega), (by rw [sizeLine_eq]; omega), (by rw [sizeLine_eq]; omega), (by rw [sizeLine_eq]; omega), ?_⟩
  refine forL_ind (Inv := fun rest η => ∃ o' s, J o' ∧ notBor s = true ∧ η = [.bor o', .fz (.int n), .fz (.tup ss), .fz (.lst od), s4, .fz (.tup pg), s6, s7, s, s9] ∧ ∀ d ∈ rest, Y 50 d) ?_ ?_ _ _ ⟨o1, s8, hJ1, hb, rfl, fun d hd => ?_⟩
  · rintro η ⟨o', s, hJ', hs, rfl, _⟩
    exact h o' s hJ' hs
  · rintro d rest η K ⟨o', s, hJ', hs, rfl, hY⟩ hK
    (try simp only [dSeq, dIfS, dRet, dRetN, dNext, dSet, dSetO, dDrop, dCall, callQ, dCallKw, dCons, dNil, dBor, dsQ, dTup, dLst, dV, dC, slot, dOp, dUn, dCmp, dCmpT, dChain, dChainT, dTru, dAnd, dOr, dNot, dAndV, dOrV, dNotV, dIf, dIsi, dNoO, dSoO, dSl, bodyQ, endsOf, outsOf, lents, putB, lentQ, dAsg, gNm, gsNil, iSeq, iRng, DL.iRng2, iEnm, dLm, dLm0, dPut, dMm, dYes, hQ, isSub, hideE, pick_0, pick_10, pick_210, rep2, kg, dFor, dLc, wipeD, restD, dPar, ixN3_0, ixN3_1, ixN3_2, ex_some, dRaise_1, dHeard_e, List.set_cons_zero, List.set_cons_succ, rdQ_fz, rdQ_own, rdQ_at, rdS_fz, rdS_own, rdS_bor, frzQ_fz, frzQ_own, frzQ_at, frS_fz, frS_own, nmQ_s, nmS_fz, nmS_own, nmS_bor, retQ_fz, retQ_own, retQ_at, rtS_fz, rtS_own, argsOf_at, argsOf_d, argsOf_n, lnS_own, lnS_bor, lnS_fz, reS_o, reS_b, setF_d, setO_own, setO_fz, setO_at, notBor_fz, notBor_own, notBor_no, isOwn_own, isOwn_bor, addD_ii, addD_ss, addD_ll, addD_tt, subD_ii, mulD_ii, mulD_li, mulD_ti, fdivD_ii, modD_ii, powD_ii, negD_i, ltD_ii, leD_ii, gtD_ii, geD_ii, isQ_n, isQ_b, nisQ_n, isN_non, isN_bl, isN_int, isN_str, isN_tup, isN_lst, isN_rol, isN_dct, isT_int_non, isT_int_bl, isT_int_int, isT_int_str, isT_int_tup, isT_int_lst, isT_int_rol, isT_int_dct, isT_bool_non, isT_bool_bl, isT_bool_int, isT_bool_str, isT_bool_tup, isT_bool_lst, isT_bool_rol, isT_bool_dct, isT_str_non, isT_str_bl, isT_str_int, isT_str_str, isT_str_tup, isT_str_lst, isT_str_rol, isT_str_dct, isT_tuple_non, isT_tuple_bl, isT_tuple_int, isT_tuple_str, isT_tuple_tup, isT_tuple_lst, isT_tuple_rol, isT_tuple_dct, isT_list_non, isT_list_bl, isT_list_int, isT_list_str, isT_list_tup, isT_list_lst, isT_list_rol, isT_list_dct, isT_dict_non, isT_dict_bl, isT_dict_int, isT_dict_str, isT_dict_tup, isT_dict_lst, isT_dict_rol, isT_dict_dct, truQ_non, truQ_bl, truQ_int, truQ_tup, truQ_lst, blQ_bl, lenD_tup, lenD_lst, lenD_rol, lenD_str, tupD_tup, tupD_lst, lstD_tup, lstD_lst, lstD_rol, intD_i, intD_b, boolD_i, boolD_b, ixD_tup, ixD_lst, ixD_rol, slD_lst, slD_tup, intQ_i, appD_1, extD_1, lsQ_own, lsQ_bor, gTp_t, gsCons_c, seqQ_t, seqQ_l, seqQ_r, hideS_fz, hideS_own, hideS_bor, hideS_no, mmQ_ii, atI_0, atI_1, atI_2, List.map_cons, List.map_nil, List.replicate, List.cons_append, List.nil_append, List.append_nil, List.set, List.length_cons, List.length_nil, decide_eq_true_eq, if_true, if_false, Bool.not_true, Bool.not_false, Bool.false_eq_true, and_true, true_and, List.nodup_cons, List.not_mem_nil, not_false_eq_true, List.nodup_nil, List.mem_cons, or_false, List.getD, hs])
    refine ⟨(by rw [sizeLine_eq]; omega), (by rw [sizeLine_eq]; omega), (by simp [lents, slot, Sl.isOwn]), w_oneL hJ' (by simp) (by simp) fun e he o2 h2 => ?_⟩
    (try simp only [dSeq, dIfS, dRet, dRetN, dNext, dSet, dSetO, dDrop, dCall, callQ, dCallKw, dCons, dNil, dBor, dsQ, dTup, dLst, dV, dC, slot, dOp, dUn, dCmp, dCmpT, dChain, dChainT, dTru, dAnd, dOr, dNot, dAndV, dOrV, dNotV, dIf, dIsi, dNoO, dSoO, dSl, bodyQ, endsOf, outsOf, lents, putB, lentQ, dAsg, gNm, gsNil, iSeq, iRng, DL.iRng2, iEnm, dLm, dLm0, dPut, dMm, dYes, hQ, isSub, hideE, pick_0, pick_10, pick_210, rep2, kg, dFor, dLc, wipeD, restD, dPar, ixN3_0, ixN3_1, ixN3_2, ex_some, dRaise_1, dHeard_e, List.set_cons_zero, List.set_cons_succ, rdQ_fz, rdQ_own, rdQ_at, rdS_fz, rdS_own, rdS_bor, frzQ_fz, frzQ_own, frzQ_at, frS_fz, frS_own, nmQ_s, nmS_fz, nmS_own, nmS_bor, retQ_fz, retQ_own, retQ_at, rtS_fz, rtS_own, argsOf_at, argsOf_d, argsOf_n, lnS_own, lnS_bor, lnS_fz, reS_o, reS_b, setF_d, setO_own, setO_fz, setO_at, notBor_fz, notBor_own, notBor_no, isOwn_own, isOwn_bor, addD_ii, addD_ss, addD_ll, addD_tt, subD_ii, mulD_ii, mulD_li, mulD_ti, fdivD_ii, modD_ii, powD_ii, negD_i, ltD_ii, leD_ii, gtD_ii, geD_ii, isQ_n, isQ_b, nisQ_n, isN_non, isN_bl, isN_int, isN_str, isN_tup, isN_lst, isN_rol, isN_dct, isT_int_non, isT_int_bl, isT_int_int, isT_int_str, isT_int_tup, isT_int_lst, isT_int_rol, isT_int_dct, isT_bool_non, isT_bool_bl, isT_bool_int, isT_bool_str, isT_bool_tup, isT_bool_lst, isT_bool_rol, isT_bool_dct, isT_str_non, isT_str_bl, isT_str_int, isT_str_str, isT_str_tup, isT_str_lst, isT_str_rol, isT_str_dct, isT_tuple_non, isT_tuple_bl, isT_tuple_int, isT_tuple_str, isT_tuple_tup, isT_tuple_lst, isT_tuple_rol, isT_tuple_dct, isT_list_non, isT_list_bl, isT_list_int, isT_list_str, isT_list_tup, isT_list_lst, isT_list_rol, isT_list_dct, isT_dict_non, isT_dict_bl, isT_dict_int, isT_dict_str, isT_dict_tup, isT_dict_lst, isT_dict_rol, isT_dict_dct, truQ_non, truQ_bl, truQ_int, truQ_tup, truQ_lst, blQ_bl, lenD_tup, lenD_lst, lenD_rol, lenD_str, tupD_tup, tupD_lst, lstD_tup, lstD_lst, lstD_rol, intD_i, intD_b, boolD_i, boolD_b, ixD_tup, ixD_lst, ixD_rol, slD_lst, slD_tup, intQ_i, appD_1, extD_1, lsQ_own, lsQ_bor, gTp_t, gsCons_c, seqQ_t, seqQ_l, seqQ_r, hideS_fz, hideS_own, hideS_bor, hideS_no, mmQ_ii, atI_0, atI_1, atI_2, List.map_cons, List.map_nil, List.replicate, List.cons_append, List.nil_append, List.append_nil, List.set, List.length_cons, List.length_nil, decide_eq_true_eq, if_true, if_false, Bool.not_true, Bool.not_false, Bool.false_eq_true, and_true, true_and, List.nodup_cons, List.not_mem_nil, not_false_eq_true, List.nodup_nil, List.mem_cons, or_false, List.getD])
    refine ⟨(by simp [lents, slot, Sl.isOwn]), w_page_right (hY d List.mem_cons_self) ?_ ?_⟩
    · simp only [List.mem_cons, List.not_mem_nil, or_false] at he
      rcases he with rfl | rfl | rfl
      · exact yp
      · exact Ynon
      · exact Y.tupOf l1000 fun d hd => by cases hd
    · (try simp only [dSeq, dIfS, dRet, dRetN, dNext, dSet, dSetO, dDrop, dCall, callQ, dCallKw, dCons, dNil, dBor, dsQ, dTup, dLst, dV, dC, slot, dOp, dUn, dCmp, dCmpT, dChain, dChainT, dTru, dAnd, dOr, dNot, dAndV, dOrV, dNotV, dIf, dIsi, dNoO, dSoO, dSl, bodyQ, endsOf, outsOf, lents, putB, lentQ, dAsg, gNm, gsNil, iSeq, iRng, DL.iRng2, iEnm, dLm, dLm0, dPut, dMm, dYes, hQ, isSub, hideE, pick_0, pick_10, pick_210, rep2, kg, dFor, dLc, wipeD, restD, dPar, ixN3_0, ixN3_1, ixN3_2, ex_some, dRaise_1, dHeard_e, List.set_cons_zero, List.set_cons_succ, rdQ_fz, rdQ_own, rdQ_at, rdS_fz, rdS_own, rdS_bor, frzQ_fz, frzQ_own, frzQ_at, frS_fz, frS_own, nmQ_s, nmS_fz, nmS_own, nmS_bor, retQ_fz, retQ_own, retQ_at, rtS_fz, rtS_own, argsOf_at, argsOf_d, argsOf_n, lnS_own, lnS_bor, lnS_fz, reS_o, reS_b, setF_d, setO_own, setO_fz, setO_at, notBor_fz, notBor_own, notBor_no, isOwn_own, isOwn_bor, addD_ii, addD_ss, addD_ll, addD_tt, subD_ii, mulD_ii, mulD_li, mulD_ti, fdivD_ii, modD_ii, powD_ii, negD_i, ltD_ii, leD_ii, gtD_ii, geD_ii, isQ_n, isQ_b, nisQ_n, isN_non, isN_bl, isN_int, isN_str, isN_tup, isN_lst, isN_rol, isN_dct, isT_int_non, isT_int_bl, isT_int_int, isT_int_str, isT_int_tup, isT_int_lst, isT_int_rol, isT_int_dct, isT_bool_non, isT_bool_bl, isT_bool_int, isT_bool_str, isT_bool_tup, isT_bool_lst, isT_bool_rol, isT_bool_dct, isT_str_non, isT_str_bl, isT_str_int, isT_str_str, isT_str_tup, isT_str_lst, isT_str_rol, isT_str_dct, isT_tuple_non, isT_tuple_bl, isT_tuple_int, isT_tuple_str, isT_tuple_tup, isT_tuple_lst, isT_tuple_rol, isT_tuple_dct, isT_list_non, isT_list_bl, isT_list_int, isT_list_str, isT_list_tup, isT_list_lst, isT_list_rol, isT_list_dct, isT_dict_non, isT_dict_bl, isT_dict_int, isT_dict_str, isT_dict_tup, isT_dict_lst, isT_dict_rol, isT_dict_dct, truQ_non, truQ_bl, truQ_int, truQ_tup, truQ_lst, blQ_bl, lenD_tup, lenD_lst, lenD_rol, lenD_str, tupD_tup, tupD_lst, lstD_tup, lstD_lst, lstD_rol, intD_i, intD_b, boolD_i, boolD_b, ixD_tup, ixD_lst, ixD_rol, slD_lst, slD_tup, intQ_i, appD_1, extD_1, lsQ_own, lsQ_bor, gTp_t, gsCons_c, seqQ_t, seqQ_l, seqQ_r, hideS_fz, hideS_own, hideS_bor, hideS_no, mmQ_ii, atI_0, atI_1, atI_2, List.map_cons, List.map_nil, List.replicate, List.cons_append, List.nil_append, List.append_nil, List.set, List.length_cons, List.length_nil, decide_eq_true_eq, if_true, if_false, Bool.not_true, Bool.not_false, Bool.false_eq_true, and_true, true_and, List.nodup_cons, List.not_mem_nil, not_false_eq_true, List.nodup_nil, List.mem_cons, or_false, List.getD])
      exact hK _ ⟨o2, _, h2, rfl, rfl, fun z hz => hY z (List.mem_cons_of_mem _ hz)⟩
  · simp only [List.mem_cons, List.mem_append, List.not_mem_nil, or_false] at hd
    rcases hd with hd | rfl | rfl | rfl
    · exact (hy d hd).le (by decide)
    · exact Ynon
    · exact Y.tupOf l1000 fun d hd => by cases hd
    · exact Y.lstOf l1000 fun d hd => by rw [List.mem_singleton] at hd; rw [hd]; exact Yint
theorem wq1 {u : DTS} (hJ : J o) (h0 : 1 ≤ n) (h1 : n ≤ 24) (h : ∀ ss o', J o' → (ss.length : Int) = n → In6 ss → u Dn [.bor o', .fz (.int n), .fz (.tup ss), s3, s4, s5, s6, s7, s8, s9]) (hb : notBor s2 = true) :
    dSeq (dSet 2 (dCall sp_zc_sizes ED0 (dBor 0 (dCons (dV 1) dNil)))) u Dn [.bor o, .fz (.int n), s2, s3, s4, s5, s6, s7, s8, s9] := seq_i (wr1 hJ h0 h1 h hb)
theorem wq2 {u : DTS} {d1 : D} (hJ : J o) (h : ∀ od o', J o' → (∀ d ∈ od, Y 41 d) → od.length = 13 → u Dn [.bor o', .fz (.int n), .fz d1, .fz (.lst od), s4, s5, s6, s7, s8, s9]) (hb : notBor s3 = true) :
    dSeq (dSet 3 (dLst (dCons (dC (.int 0)) (dCons (dC (.int 7)) (dCons (dUn negD (dC (.int 1))) (dCons (dC .non) (dCons (dC (.str "1")) (dCons (dC (.bl true)) (dCons (dC (.bl false)) (dCons (dTup (dCons (dC (.int 1)) dNil)) (dCons (dLst (dCons (dC (.int 1)) dNil)) (dCons (dOp powD (dC (.int 10)) (dC (.int 30))) (dCons (dC (.int 6)) (dCons (dC (.int 1)) (dCons (dCall sp_deep ED0 (dBor 0 (dCons (dC (.int 1)) dNil))) dNil))))))))))))))) u Dn [.bor o, .fz (.int n), .fz d1, s3, s4, s5, s6, s7, s8, s9] := seq_i (wr2 hJ h hb)
theorem wq3 {u : DTS} {ss od : List D} (hJ : J o) (h0 : 1 ≤ n) (h1 : n ≤ 24) (hl : (ss.length : Int) = n) (h6 : In6 ss) (ho : ∀ d ∈ od, Y 41 d) (hol : od.length = 13) (hb : notBor s4 = true)
    (h : ∀ o' s, J o' → notBor s = true → u Dn [.bor o', .fz (.int n), .fz (.tup ss), .fz (.lst od), s, s5, s6, s7, s8, s9]) :
    dSeq (dFor (iSeq (dOp addD (dLst (dCons (dV 2) (dCons (dOp mulD (dTup (dCons (dC (.int 1)) dNil)) (dV 1)) (dCons (dOp mulD (dTup (dCons (dC (.int 6)) dNil)) (dV 1)) dNil)))) (dCall sp_bent ED0 (dBor 0 (dCons (dV 2) (dCons (dV 3) dNil)))))) (gNm 4) (dIfS (dNot (dTru (dCall sp_sizes_right ED0 (dCons (dV 4) dNil)))) (dRet (dC (.bl false))) dNext)) u Dn [.bor o, .fz (.int n), .fz (.tup ss), .fz (.lst od), s4, s5, s6, s7, s8, s9] := seq_i (wr3 hJ h0 h1 hl h6 ho hol hb h)
theorem wq4 {u : DTS} {ss : List D} (hJ : J o) (hl : (ss.length : Int) = n) (h1 : n ≤ 24) (h6 : In6 ss) (hb : notBor s5 = true)
    (h : ∀ pg o', J o' → pg.length = ss.length → Ints pg → u Dn [.bor o', .fz (.int n), .fz (.tup ss), s3, s4, .fz (.tup pg), s6, s7, s8, s9]) :
    dSeq (dSet 5 (dCall sp_zc_page ED0 (dBor 0 (dCons (dV 2) dNil)))) u Dn [.bor o, .fz (.int n), .fz (.tup ss), s3, s4, s5, s6, s7, s8, s9] := seq_i (wr4 hJ hl h1 h6 hb h)
theorem wq5 {u : DTS} {ss : List D} (hJ : J o) (hl : (ss.length : Int) = n) (h0 : 1 ≤ n) (h1 : n ≤ 24) (h6 : In6 ss) (hb : notBor s6 = true)
    (h : ∀ wo o', J o' → (∀ d ∈ wo, Y 41 d) → wo.length = 12 → u Dn [.bor o', .fz (.int n), .fz (.tup ss), s3, s4, s5, .fz (.lst wo), s7, s8, s9]) :
    dSeq (dSet 6 (dLst (dCons (dUn negD (dC (.int 1))) (dCons (dC .non) (dCons (dC (.str "0")) (dCons (dC (.bl true)) (dCons (dC (.bl false)) (dCons (dTup (dCons (dC (.int 0)) dNil)) (dCons (dLst (dCons (dC (.int 0)) dNil)) (dCons (dOp powD (dC (.int 10)) (dC (.int 30))) (dCons (dC (.int 6)) (dCons (dC (.int 0)) (dCons (dCall sp_one ED0 (dBor 0 (dCons (dV 2) dNil))) (dCons (dCall sp_deep ED0 (dBor 0 (dCons (dC (.int 0)) dNil))) dNil)))))))))))))) u Dn [.bor o, .fz (.int n), .fz (.tup ss), s3, s4, s5, s6, s7, s8, s9] := seq_i (wr5 hJ hl h0 h1 h6 hb h)
theorem wq6 {u : DTS} {ss : List D} (hJ : J o) (hl : (ss.length : Int) = n) (h1 : n ≤ 24) (h6 : In6 ss) (hb : notBor s7 = true) (hb9 : notBor s9 = true)
    (h : ∀ tp, tp.length = ss.length → Ints tp → u Dn [.bor o, .fz (.int n), .fz (.tup ss), s3, s4, s5, s6, .fz (.tup tp), s8, s9]) :
    dSeq (dSet 7 (dUn tupD (dLc (iSeq (dV 2)) (gNm 9) dYes (dOp subD (dV 9) (dC (.int 1))) [9]))) u Dn [.bor o, .fz (.int n), .fz (.tup ss), s3, s4, s5, s6, s7, s8, s9] := seq_i (wr6 hJ hl h1 h6 hb hb9 h)
theorem wq7 {u : DTS} {ss pg tp wo : List D} (hJ : J o) (h0 : 1 ≤ n) (h1 : n ≤ 24) (hl : (ss.length : Int) = n) (h6 : In6 ss) (hpl : pg.length = ss.length) (hpi : Ints pg) (htl : tp.length = ss.length) (hti : Ints tp) (hw : ∀ d ∈ wo, Y 41 d) (hwl : wo.length = 12) (hb : notBor s4 = true)
    (h : ∀ o' s, J o' → notBor s = true → u Dn [.bor o', .fz (.int n), .fz (.tup ss), s3, s, .fz (.tup pg), .fz (.lst wo), .fz (.tup tp), s8, s9]) :
    dSeq (dFor (iSeq (dOp addD (dOp addD (dOp addD (dLst (dCons (dV 5) (dCons (dV 7) (dCons (dOp mulD (dTup (dCons (dC (.int 0)) dNil)) (dV 1)) dNil)))) (dCall sp_bent ED0 (dBor 0 (dCons (dV 5) (dCons (dV 6) dNil))))) (dCall sp_things ED0 (dBor 0 dNil))) (dLst (dCons (dV 2) dNil)))) (gNm 4) (dIfS (dNot (dTru (dCall sp_page_right ED0 (dCons (dV 2) (dCons (dV 4) dNil))))) (dRet (dC (.bl false))) dNext)) u Dn [.bor o, .fz (.int n), .fz (.tup ss), s3, s4, .fz (.tup pg), .fz (.lst wo), .fz (.tup tp), s8, s9] := seq_i (wr7 hJ h0 h1 hl h6 hpl hpi htl hti hw hwl hb h)
theorem wq8 {u : DTS} {ss od pg : List D} (hJ : J o) (h0 : 1 ≤ n) (h1 : n ≤ 24) (hl : (ss.length : Int) = n) (h6 : In6 ss) (hpl : pg.length = ss.length) (hpi : Ints pg) (ho : ∀ d ∈ od, Y 41 d) (hol : od.length = 13) (hb : notBor s8 = true)
    (h : ∀ o' s, J o' → notBor s = true → u Dn [.bor o', .fz (.int n), .fz (.tup ss), .fz (.lst od), s4, .fz (.tup pg), s6, s7, s, s9]) :
    dSeq (dFor (iSeq (dOp addD (dCall sp_bent ED0 (dBor 0 (dCons (dV 2) (dCons (dV 3) dNil)))) (dLst (dCons (dC .non) (dCons (dTup dNil) (dCons (dLst (dCons (dC (.int 2)) dNil)) dNil)))))) (gNm 8) (dIfS (dNot (dTru (dCall sp_page_right ED0 (dCons (dV 8) (dCons (dCall sp_one ED0 (dBor 0 (dCons (dLst (dCons (dV 5) (dCons (dC .non) (dCons (dTup dNil) dNil)))) dNil))) dNil))))) (dRet (dC (.bl false))) dNext)) u Dn [.bor o, .fz (.int n), .fz (.tup ss), .fz (.lst od), s4, .fz (.tup pg), s6, s7, s8, s9] := seq_i (wr8 hJ h0 h1 hl h6 hpl hpi ho hol hb h)
end
theorem w_world_right {o : OC} {n : Int} {Q : Rv → List OC → Prop} {ED : Nat → D → Prop} (hJ : J o) (h0 : 1 ≤ n) (h1 : n ≤ 24) (hQ : ∀ o', J o' → Q (.fz (.bl true)) [o']) : sp_world_right [.bor o, .fz (.int n)] Q ED := by
  refine ⟨rfl, ?_⟩
  unfold bodyQ td_world_right
  show dSeq _ _ (endsOf [.bor o, .fz (.int n)] Q) [.bor o, .fz (.int n), .no, .no, .no, .no, .no, .no, .no, .no]
  refine wq1 hJ h0 h1 (fun ss o1 j1 l1 i1 => ?_) rfl
  refine wq2 j1 (fun od o2 j2 y2 l2 => ?_) rfl
  refine wq3 j2 h0 h1 l1 i1 y2 l2 rfl fun o3 s3 j3 b3 => ?_
  refine wq4 j3 l1 h1 i1 rfl fun pg o4 j4 l4 i4 => ?_
  refine wq5 j4 l1 h0 h1 i1 rfl fun wo o5 j5 y5 l5 => ?_
  refine wq6 j5 l1 h1 i1 rfl rfl fun tp l6 i6 => ?_
  refine wq7 j5 h0 h1 l1 i1 l4 i4 l6 i6 y5 l5 b3 fun o7 s7 j7 b7 => ?_
  refine wq8 j7 h0 h1 l1 i1 l4 i4 y2 l2 rfl fun o8 s8 j8 b8 => ?_
  exact hQ o8 j8
theorem w_pool {ns : List Int} {Q : Rv → List OC → Prop} {ED : Nat → D → Prop} (hl : ns.length ≤ 63) (hQ : ∀ o, J o → Q (.own o) []) : sp_pool [.fz (.rol (ns.map D.int))] Q ED := by
  refine ⟨rfl, ?_⟩
  (try simp only [dSeq, dIfS, dRet, dRetN, dNext, dSet, dSetO, dDrop, dCall, callQ, dCallKw, dCons, dNil, dBor, dsQ, dTup, dLst, dV, dC, slot, dOp, dUn, dCmp, dCmpT, dChain, dChainT, dTru, dAnd, dOr, dNot, dAndV, dOrV, dNotV, dIf, dIsi, dNoO, dSoO, dSl, bodyQ, endsOf, outsOf, lents, putB, lentQ, dAsg, gNm, gsNil, iSeq, iRng, DL.iRng2, iEnm, dLm, dLm0, dPut, dMm, dYes, hQ, isSub, hideE, pick_0, pick_10, pick_210, rep2, kg, dFor, dLc, wipeD, restD, dPar, ixN3_0, ixN3_1, ixN3_2, ex_some, dRaise_1, dHeard_e, List.set_cons_zero, List.set_cons_succ, rdQ_fz, rdQ_own, rdQ_at, rdS_fz, rdS_own, rdS_bor, frzQ_fz, frzQ_own, frzQ_at, frS_fz, frS_own, nmQ_s, nmS_fz, nmS_own, nmS_bor, retQ_fz, retQ_own, retQ_at, rtS_fz, rtS_own, argsOf_at, argsOf_d, argsOf_n, lnS_own, lnS_bor, lnS_fz, reS_o, reS_b, setF_d, setO_own, setO_fz, setO_at, notBor_fz, notBor_own, notBor_no, isOwn_own, isOwn_bor, addD_ii, addD_ss, addD_ll, addD_tt, subD_ii, mulD_ii, mulD_li, mulD_ti, fdivD_ii, modD_ii, powD_ii, negD_i, ltD_ii, leD_ii, gtD_ii, geD_ii, isQ_n, isQ_b, nisQ_n, isN_non, isN_bl, isN_int, isN_str, isN_tup, isN_lst, isN_rol, isN_dct, isT_int_non, isT_int_bl, isT_int_int, isT_int_str, isT_int_tup, isT_int_lst, isT_int_rol, isT_int_dct, isT_bool_non, isT_bool_bl, isT_bool_int, isT_bool_str, isT_bool_tup, isT_bool_lst, isT_bool_rol, isT_bool_dct, isT_str_non, isT_str_bl, isT_str_int, isT_str_str, isT_str_tup, isT_str_lst, isT_str_rol, isT_str_dct, isT_tuple_non, isT_tuple_bl, isT_tuple_int, isT_tuple_str, isT_tuple_tup, isT_tuple_lst, isT_tuple_rol, isT_tuple_dct, isT_list_non, isT_list_bl, isT_list_int, isT_list_str, isT_list_tup, isT_list_lst, isT_list_rol, isT_list_dct, isT_dict_non, isT_dict_bl, isT_dict_int, isT_dict_str, isT_dict_tup, isT_dict_lst, isT_dict_rol, isT_dict_dct, truQ_non, truQ_bl, truQ_int, truQ_tup, truQ_lst, blQ_bl, lenD_tup, lenD_lst, lenD_rol, lenD_str, tupD_tup, tupD_lst, lstD_tup, lstD_lst, lstD_rol, intD_i, intD_b, boolD_i, boolD_b, ixD_tup, ixD_lst, ixD_rol, slD_lst, slD_tup, intQ_i, appD_1, extD_1, lsQ_own, lsQ_bor, gTp_t, gsCons_c, seqQ_t, seqQ_l, seqQ_r, hideS_fz, hideS_own, hideS_bor, hideS_no, mmQ_ii, atI_0, atI_1, atI_2, List.map_cons, List.map_nil, List.replicate, List.cons_append, List.nil_append, List.append_nil, List.set, List.length_cons, List.length_nil, decide_eq_true_eq, if_true, if_false, Bool.not_true, Bool.not_false, Bool.false_eq_true, and_true, true_and, List.nodup_cons, List.not_mem_nil, not_false_eq_true, List.nodup_nil, List.mem_cons, or_false, List.getD, td_pool, List.length_map])
  refine ⟨(by rw [sizeLine_eq]; omega), ⟨by omega, by omega⟩, ?_⟩
  rw [rngD_0, show ((ns.length : Nat) : Int).toNat = ns.length by omega]
  refine forL_ind (Inv := fun rest η => ∃ i k dg st s3 s4, rest = rngs i k ∧ i + k = ns.length ∧ η = [.fz (.rol (ns.map D.int)), .fz (.int dg), .fz (.int st), s3, s4] ∧ 0 ≤ dg ∧ notBor s3 = true ∧ notBor s4 = true) ?_ ?_ _ _ ⟨0, ns.length, 0, 7, .no, .no, rfl, by omega, rfl, by decide, rfl, rfl⟩
  · rintro η ⟨i, k, dg, st, s3, s4, r1, r2, rfl, r3, b3, b4⟩
    (try simp only [dSeq, dIfS, dRet, dRetN, dNext, dSet, dSetO, dDrop, dCall, callQ, dCallKw, dCons, dNil, dBor, dsQ, dTup, dLst, dV, dC, slot, dOp, dUn, dCmp, dCmpT, dChain, dChainT, dTru, dAnd, dOr, dNot, dAndV, dOrV, dNotV, dIf, dIsi, dNoO, dSoO, dSl, bodyQ, endsOf, outsOf, lents, putB, lentQ, dAsg, gNm, gsNil, iSeq, iRng, DL.iRng2, iEnm, dLm, dLm0, dPut, dMm, dYes, hQ, isSub, hideE, pick_0, pick_10, pick_210, rep2, kg, dFor, dLc, wipeD, restD, dPar, ixN3_0, ixN3_1, ixN3_2, ex_some, dRaise_1, dHeard_e, List.set_cons_zero, List.set_cons_succ, rdQ_fz, rdQ_own, rdQ_at, rdS_fz, rdS_own, rdS_bor, frzQ_fz, frzQ_own, frzQ_at, frS_fz, frS_own, nmQ_s, nmS_fz, nmS_own, nmS_bor, retQ_fz, retQ_own, retQ_at, rtS_fz, rtS_own, argsOf_at, argsOf_d, argsOf_n, lnS_own, lnS_bor, lnS_fz, reS_o, reS_b, setF_d, setO_own, setO_fz, setO_at, notBor_fz, notBor_own, notBor_no, isOwn_own, isOwn_bor, addD_ii, addD_ss, addD_ll, addD_tt, subD_ii, mulD_ii, mulD_li, mulD_ti, fdivD_ii, modD_ii, powD_ii, negD_i, ltD_ii, leD_ii, gtD_ii, geD_ii, isQ_n, isQ_b, nisQ_n, isN_non, isN_bl, isN_int, isN_str, isN_tup, isN_lst, isN_rol, isN_dct, isT_int_non, isT_int_bl, isT_int_int, isT_int_str, isT_int_tup, isT_int_lst, isT_int_rol, isT_int_dct, isT_bool_non, isT_bool_bl, isT_bool_int, isT_bool_str, isT_bool_tup, isT_bool_lst, isT_bool_rol, isT_bool_dct, isT_str_non, isT_str_bl, isT_str_int, isT_str_str, isT_str_tup, isT_str_lst, isT_str_rol, isT_str_dct, isT_tuple_non, isT_tuple_bl, isT_tuple_int, isT_tuple_str, isT_tuple_tup, isT_tuple_lst, isT_tuple_rol, isT_tuple_dct, isT_list_non, isT_list_bl, isT_list_int, isT_list_str, isT_list_tup, isT_list_lst, isT_list_rol, isT_list_dct, isT_dict_non, isT_dict_bl, isT_dict_int, isT_dict_str, isT_dict_tup, isT_dict_lst, isT_dict_rol, isT_dict_dct, truQ_non, truQ_bl, truQ_int, truQ_tup, truQ_lst, blQ_bl, lenD_tup, lenD_lst, lenD_rol, lenD_str, tupD_tup, tupD_lst, lstD_tup, lstD_lst, lstD_rol, intD_i, intD_b, boolD_i, boolD_b, ixD_tup, ixD_lst, ixD_rol, slD_lst, slD_tup, intQ_i, appD_1, extD_1, lsQ_own, lsQ_bor, gTp_t, gsCons_c, seqQ_t, seqQ_l, seqQ_r, hideS_fz, hideS_own, hideS_bor, hideS_no, mmQ_ii, atI_0, atI_1, atI_2, List.map_cons, List.map_nil, List.replicate, List.cons_append, List.nil_append, List.append_nil, List.set, List.length_cons, List.length_nil, decide_eq_true_eq, if_true, if_false, Bool.not_true, Bool.not_false, Bool.false_eq_true, and_true, true_and, List.nodup_cons, List.not_mem_nil, not_false_eq_true, List.nodup_nil, List.mem_cons, or_false, List.getD])
    exact ⟨(by rw [sizeLine_eq]; omega), hQ _ ⟨_, _, _, rfl⟩⟩
  · rintro d rest η K ⟨i, k, dg, st, s3, s4, r1, r2, rfl, r3, b3, b4⟩ hK
    cases k with
    | zero => cases r1
    | succ k =>
      obtain ⟨rfl, rfl⟩ := List.cons.inj r1
      have hi : i < ns.length := by omega
      have ga : atI (ns.map D.int) (i : Nat) = some (.int ns[i]) := atI_nat (by omega) (by rw [show ((i : Nat) : Int).toNat = i by omega, List.getElem?_map, List.getElem?_eq_getElem hi]; rfl)
      (try simp only [dSeq, dIfS, dRet, dRetN, dNext, dSet, dSetO, dDrop, dCall, callQ, dCallKw, dCons, dNil, dBor, dsQ, dTup, dLst, dV, dC, slot, dOp, dUn, dCmp, dCmpT, dChain, dChainT, dTru, dAnd, dOr, dNot, dAndV, dOrV, dNotV, dIf, dIsi, dNoO, dSoO, dSl, bodyQ, endsOf, outsOf, lents, putB, lentQ, dAsg, gNm, gsNil, iSeq, iRng, DL.iRng2, iEnm, dLm, dLm0, dPut, dMm, dYes, hQ, isSub, hideE, pick_0, pick_10, pick_210, rep2, kg, dFor, dLc, wipeD, restD, dPar, ixN3_0, ixN3_1, ixN3_2, ex_some, dRaise_1, dHeard_e, List.set_cons_zero, List.set_cons_succ, rdQ_fz, rdQ_own, rdQ_at, rdS_fz, rdS_own, rdS_bor, frzQ_fz, frzQ_own, frzQ_at, frS_fz, frS_own, nmQ_s, nmS_fz, nmS_own, nmS_bor, retQ_fz, retQ_own, retQ_at, rtS_fz, rtS_own, argsOf_at, argsOf_d, argsOf_n, lnS_own, lnS_bor, lnS_fz, reS_o, reS_b, setF_d, setO_own, setO_fz, setO_at, notBor_fz, notBor_own, notBor_no, isOwn_own, isOwn_bor, addD_ii, addD_ss, addD_ll, addD_tt, subD_ii, mulD_ii, mulD_li, mulD_ti, fdivD_ii, modD_ii, powD_ii, negD_i, ltD_ii, leD_ii, gtD_ii, geD_ii, isQ_n, isQ_b, nisQ_n, isN_non, isN_bl, isN_int, isN_str, isN_tup, isN_lst, isN_rol, isN_dct, isT_int_non, isT_int_bl, isT_int_int, isT_int_str, isT_int_tup, isT_int_lst, isT_int_rol, isT_int_dct, isT_bool_non, isT_bool_bl, isT_bool_int, isT_bool_str, isT_bool_tup, isT_bool_lst, isT_bool_rol, isT_bool_dct, isT_str_non, isT_str_bl, isT_str_int, isT_str_str, isT_str_tup, isT_str_lst, isT_str_rol, isT_str_dct, isT_tuple_non, isT_tuple_bl, isT_tuple_int, isT_tuple_str, isT_tuple_tup, isT_tuple_lst, isT_tuple_rol, isT_tuple_dct, isT_list_non, isT_list_bl, isT_list_int, isT_list_str, isT_list_tup, isT_list_lst, isT_list_rol, isT_list_dct, isT_dict_non, isT_dict_bl, isT_dict_int, isT_dict_str, isT_dict_tup, isT_dict_lst, isT_dict_rol, isT_dict_dct, truQ_non, truQ_bl, truQ_int, truQ_tup, truQ_lst, blQ_bl, lenD_tup, lenD_lst, lenD_rol, lenD_str, tupD_tup, tupD_lst, lstD_tup, lstD_lst, lstD_rol, intD_i, intD_b, boolD_i, boolD_b, ixD_tup, ixD_lst, ixD_rol, slD_lst, slD_tup, intQ_i, appD_1, extD_1, lsQ_own, lsQ_bor, gTp_t, gsCons_c, seqQ_t, seqQ_l, seqQ_r, hideS_fz, hideS_own, hideS_bor, hideS_no, mmQ_ii, atI_0, atI_1, atI_2, List.map_cons, List.map_nil, List.replicate, List.cons_append, List.nil_append, List.append_nil, List.set, List.length_cons, List.length_nil, decide_eq_true_eq, if_true, if_false, Bool.not_true, Bool.not_false, Bool.false_eq_true, and_true, true_and, List.nodup_cons, List.not_mem_nil, not_false_eq_true, List.nodup_nil, List.mem_cons, or_false, List.getD, b3, b4, ga])
      have fin : ∀ a b (c : Int), 0 ≤ a → K [.fz (.rol (ns.map D.int)), .fz (.int a), .fz (.int b), .fz (.int (i : Nat)), .fz (.int c)] := fun a b c h => hK _ ⟨i + 1, k, a, b, _, _, rfl, by omega, rfl, h, rfl, rfl⟩
      have e60 : ((10 : Int) ^ Int.toNat 60) = 1000000000000000000000000000000000000000000000000000000000000 := by decide
      refine ⟨.inl (.inr (by decide)), by decide, by decide, ⟨by decide, by decide, by decide⟩, ?_⟩
      split
      · refine ⟨⟨by decide, by decide, by decide⟩, ?_⟩
        split
        · rename_i hlt
          rw [e60] at hlt
          refine ⟨⟨by decide, by decide, by decide⟩, .inr ?_, ⟨by decide, by decide, by decide⟩, by rw [e60]; decide, fin _ _ _ ?_⟩
          · rw [e60]
            have l2 : ∀ m : Nat, m ≤ 1000000000000000000000000000000000000000000000000000000000000 → m.log2 < 200 := fun m hm => by
              by_cases z : m = 0
              · rw [z]; decide
              · exact (Nat.log2_lt z).mpr (Nat.lt_of_le_of_lt hm (by decide))
            have a1 := l2 dg.natAbs (by omega)
            have a2 := l2 (1000000000000000000000000000000000000000000000000000000000000 : Int).natAbs (by decide)
            show _ + _ < 1000000
            omega
          · have m0 := Int.emod_nonneg (maxI ns[i] (-1 - ns[i])) (show (1000000000000000000000000000000000000000000000000000000000000 : Int) ≠ 0 by decide)
            rw [e60]
            have p0 : 0 ≤ dg * 1000000000000000000000000000000000000000000000000000000000000 := Int.mul_nonneg r3 (by decide)
            omega
        · exact fin _ _ _ r3
      · exact fin _ _ _ r3
end K01

set_option Elab.async false
set_option linter.all false
set_option maxRecDepth 100000
set_option maxHeartbeats 400000
namespace K01
open PySem PySem.Spec PyProof.Rows L2 LamX NdefX DL
section
variable {sc : D} {o : OC} {u : DTS} {Dn : DEnds} {s1 s2 s3 s4 s5 : Sl}
theorem la1 {ns : List Int} (hl : ns.length ≤ 63) (h : ∀ o', J o' → u Dn [.fz (.rol (ns.map D.int)), .own o', s2, s3, s4, s5]) (hb : notBor s1 = true) :
    dSeq (dSetO 1 (dCall sp_pool ED0 (dCons (dV 0) dNil))) u Dn [.fz (.rol (ns.map D.int)), s1, s2, s3, s4, s5] := by
  refine seq_i ?_
  (try simp only [dSeq, dIfS, dRet, dRetN, dNext, dSet, dSetO, dDrop, dCall, callQ, dCallKw, dCons, dNil, dBor, dsQ, dTup, dLst, dV, dC, slot, dOp, dUn, dCmp, dCmpT, dChain, dChainT, dTru, dAnd, dOr, dNot, dAndV, dOrV, dNotV, dIf, dIsi, dNoO, dSoO, dSl, bodyQ, endsOf, outsOf, lents, putB, lentQ, dAsg, gNm, gsNil, iSeq, iRng, DL.iRng2, iEnm, dLm, dLm0, dPut, dMm, dYes, hQ, isSub, hideE, pick_0, pick_10, pick_210, rep2, kg, dFor, dLc, wipeD, restD, dPar, ixN3_0, ixN3_1, ixN3_2, ex_some, dRaise_1, dHeard_e, List.set_cons_zero, List.set_cons_succ, rdQ_fz, rdQ_own, rdQ_at, rdS_fz, rdS_own, rdS_bor, frzQ_fz, frzQ_own, frzQ_at, frS_fz, frS_own, nmQ_s, nmS_fz, nmS_own, nmS_bor, retQ_fz, retQ_own, retQ_at, rtS_fz, rtS_own, argsOf_at, argsOf_d, argsOf_n, lnS_own, lnS_bor, lnS_fz, reS_o, reS_b, setF_d, setO_own, setO_fz, setO_at, notBor_fz, notBor_own, notBor_no, isOwn_own, isOwn_bor, addD_ii, addD_ss, addD_ll, addD_tt, subD_ii, mulD_ii, mulD_li, mulD_ti, fdivD_ii, modD_ii, powD_ii, negD_i, ltD_ii, leD_ii, gtD_ii, geD_ii, isQ_n, isQ_b, nisQ_n, isN_non, isN_bl, isN_int, isN_str, isN_tup, isN_lst, isN_rol, isN_dct, isT_int_non, isT_int_bl, isT_int_int, isT_int_str, isT_int_tup, isT_int_lst, isT_int_rol, isT_int_dct, isT_bool_non, isT_bool_bl, isT_bool_int, isT_bool_str, isT_bool_tup, isT_bool_lst, isT_bool_rol, isT_bool_dct, isT_str_non, isT_str_bl, isT_str_int, isT_str_str, isT_str_tup, isT_str_lst, isT_str_rol, isT_str_dct, isT_tuple_non, isT_tuple_bl, isT_tuple_int, isT_tuple_str, isT_tuple_tup, isT_tuple_lst, isT_tuple_rol, isT_tuple_dct, isT_list_non, isT_list_bl, isT_list_int, isT_list_str, isT_list_tup, isT_list_lst, isT_list_rol, isT_list_dct, isT_dict_non, isT_dict_bl, isT_dict_int, isT_dict_str, isT_dict_tup, isT_dict_lst, isT_dict_rol, isT_dict_dct, truQ_non, truQ_bl, truQ_int, truQ_tup, truQ_lst, blQ_bl, lenD_tup, lenD_lst, lenD_rol, lenD_str, tupD_tup, tupD_lst, lstD_tup, lstD_lst, lstD_rol, intD_i, intD_b, boolD_i, boolD_b, ixD_tup, ixD_lst, ixD_rol, slD_lst, slD_tup, intQ_i, appD_1, extD_1, lsQ_own, lsQ_bor, gTp_t, gsCons_c, seqQ_t, seqQ_l, seqQ_r, hideS_fz, hideS_own, hideS_bor, hideS_no, mmQ_ii, atI_0, atI_1, atI_2, List.map_cons, List.map_nil, List.replicate, List.cons_append, List.nil_append, List.append_nil, List.set, List.length_cons, List.length_nil, decide_eq_true_eq, if_true, if_false, Bool.not_true, Bool.not_false, Bool.false_eq_true, and_true, true_and, List.nodup_cons, List.not_mem_nil, not_false_eq_true, List.nodup_nil, List.mem_cons, or_false, List.getD])
  refine ⟨(by simp [lents, slot, Sl.isOwn]), w_pool hl fun o' hJ' => ?_⟩
  (try simp only [dSeq, dIfS, dRet, dRetN, dNext, dSet, dSetO, dDrop, dCall, callQ, dCallKw, dCons, dNil, dBor, dsQ, dTup, dLst, dV, dC, slot, dOp, dUn, dCmp, dCmpT, dChain, dChainT, dTru, dAnd, dOr, dNot, dAndV, dOrV, dNotV, dIf, dIsi, dNoO, dSoO, dSl, bodyQ, endsOf, outsOf, lents, putB, lentQ, dAsg, gNm, gsNil, iSeq, iRng, DL.iRng2, iEnm, dLm, dLm0, dPut, dMm, dYes, hQ, isSub, hideE, pick_0, pick_10, pick_210, rep2, kg, dFor, dLc, wipeD, restD, dPar, ixN3_0, ixN3_1, ixN3_2, ex_some, dRaise_1, dHeard_e, List.set_cons_zero, List.set_cons_succ, rdQ_fz, rdQ_own, rdQ_at, rdS_fz, rdS_own, rdS_bor, frzQ_fz, frzQ_own, frzQ_at, frS_fz, frS_own, nmQ_s, nmS_fz, nmS_own, nmS_bor, retQ_fz, retQ_own, retQ_at, rtS_fz, rtS_own, argsOf_at, argsOf_d, argsOf_n, lnS_own, lnS_bor, lnS_fz, reS_o, reS_b, setF_d, setO_own, setO_fz, setO_at, notBor_fz, notBor_own, notBor_no, isOwn_own, isOwn_bor, addD_ii, addD_ss, addD_ll, addD_tt, subD_ii, mulD_ii, mulD_li, mulD_ti, fdivD_ii, modD_ii, powD_ii, negD_i, ltD_ii, leD_ii, gtD_ii, geD_ii, isQ_n, isQ_b, nisQ_n, isN_non, isN_bl, isN_int, isN_str, isN_tup, isN_lst, isN_rol, isN_dct, isT_int_non, isT_int_bl, isT_int_int, isT_int_str, isT_int_tup, isT_int_lst, isT_int_rol, isT_int_dct, isT_bool_non, isT_bool_bl, isT_bool_int, isT_bool_str, isT_bool_tup, isT_bool_lst, isT_bool_rol, isT_bool_dct, isT_str_non, isT_str_bl, isT_str_int, isT_str_str, isT_str_tup, isT_str_lst, isT_str_rol, isT_str_dct, isT_tuple_non, isT_tuple_bl, isT_tuple_int, isT_tuple_str, isT_tuple_tup, isT_tuple_lst, isT_tuple_rol, isT_tuple_dct, isT_list_non, isT_list_bl, isT_list_int, isT_list_str, isT_list_tup, isT_list_lst, isT_list_rol, isT_list_dct, isT_dict_non, isT_dict_bl, isT_dict_int, isT_dict_str, isT_dict_tup, isT_dict_lst, isT_dict_rol, isT_dict_dct, truQ_non, truQ_bl, truQ_int, truQ_tup, truQ_lst, blQ_bl, lenD_tup, lenD_lst, lenD_rol, lenD_str, tupD_tup, tupD_lst, lstD_tup, lstD_lst, lstD_rol, intD_i, intD_b, boolD_i, boolD_b, ixD_tup, ixD_lst, ixD_rol, slD_lst, slD_tup, intQ_i, appD_1, extD_1, lsQ_own, lsQ_bor, gTp_t, gsCons_c, seqQ_t, seqQ_l, seqQ_r, hideS_fz, hideS_own, hideS_bor, hideS_no, mmQ_ii, atI_0, atI_1, atI_2, List.map_cons, List.map_nil, List.replicate, List.cons_append, List.nil_append, List.append_nil, List.set, List.length_cons, List.length_nil, decide_eq_true_eq, if_true, if_false, Bool.not_true, Bool.not_false, Bool.false_eq_true, and_true, true_and, List.nodup_cons, List.not_mem_nil, not_false_eq_true, List.nodup_nil, List.mem_cons, or_false, List.getD, hb])
  exact h o' hJ'
theorem la2 (hJ : J o) (hb : notBor s2 = true) (h : ∀ o' s, J o' → notBor s = true → u Dn [.fz sc, .own o', s, s3, s4, s5]) :
    dSeq (dFor (iSeq (dLst (dCons (dC (.int 1)) (dCons (dC (.int 2)) (dCons (dC (.int 3)) (dCons (dC (.int 8)) (dCons (dC (.int 24)) (dCons (dOp addD (dC (.int 1)) (dCall sp_take ED0 (dBor 1 (dCons (dC (.int 24)) dNil)))) dNil)))))))) (gNm 2) (dIfS (dNot (dTru (dCall sp_world_right ED0 (dBor 1 (dCons (dV 2) dNil))))) (dRet (dC (.bl false))) dNext)) u Dn [.fz sc, .own o, s2, s3, s4, s5] := by
  refine seq_i (for_i (lstP (F := fun ta => dCons (dC (.int 1)) (dCons (dC (.int 2)) (dCons (dC (.int 3)) (dCons (dC (.int 8)) (dCons (dC (.int 24)) ta))))) (.cons .c (.cons .c (.cons .c (.cons .c (.cons .c .nil))))) ?_))
  (try simp only [dSeq, dIfS, dRet, dRetN, dNext, dSet, dSetO, dDrop, dCall, callQ, dCallKw, dCons, dNil, dBor, dsQ, dTup, dLst, dV, dC, slot, dOp, dUn, dCmp, dCmpT, dChain, dChainT, dTru, dAnd, dOr, dNot, dAndV, dOrV, dNotV, dIf, dIsi, dNoO, dSoO, dSl, bodyQ, endsOf, outsOf, lents, putB, lentQ, dAsg, gNm, gsNil, iSeq, iRng, DL.iRng2, iEnm, dLm, dLm0, dPut, dMm, dYes, hQ, isSub, hideE, pick_0, pick_10, pick_210, rep2, kg, dFor, dLc, wipeD, restD, dPar, ixN3_0, ixN3_1, ixN3_2, ex_some, dRaise_1, dHeard_e, List.set_cons_zero, List.set_cons_succ, rdQ_fz, rdQ_own, rdQ_at, rdS_fz, rdS_own, rdS_bor, frzQ_fz, frzQ_own, frzQ_at, frS_fz, frS_own, nmQ_s, nmS_fz, nmS_own, nmS_bor, retQ_fz, retQ_own, retQ_at, rtS_fz, rtS_own, argsOf_at, argsOf_d, argsOf_n, lnS_own, lnS_bor, lnS_fz, reS_o, reS_b, setF_d, setO_own, setO_fz, setO_at, notBor_fz, notBor_own, notBor_no, isOwn_own, isOwn_bor, addD_ii, addD_ss, addD_ll, addD_tt, subD_ii, mulD_ii, mulD_li, mulD_ti, fdivD_ii, modD_ii, powD_ii, negD_i, ltD_ii, leD_ii, gtD_ii, geD_ii, isQ_n, isQ_b, nisQ_n, isN_non, isN_bl, isN_int, isN_str, isN_tup, isN_lst, isN_rol, isN_dct, isT_int_non, isT_int_bl, isT_int_int, isT_int_str, isT_int_tup, isT_int_lst, isT_int_rol, isT_int_dct, isT_bool_non, isT_bool_bl, isT_bool_int, isT_bool_str, isT_bool_tup, isT_bool_lst, isT_bool_rol, isT_bool_dct, isT_str_non, isT_str_bl, isT_str_int, isT_str_str, isT_str_tup, isT_str_lst, isT_str_rol, isT_str_dct, isT_tuple_non, isT_tuple_bl, isT_tuple_int, isT_tuple_str, isT_tuple_tup, isT_tuple_lst, isT_tuple_rol, isT_tuple_dct, isT_list_non, isT_list_bl, isT_list_int, isT_list_str, isT_list_tup, isT_list_lst, isT_list_rol, isT_list_dct, isT_dict_non, isT_dict_bl, isT_dict_int, isT_dict_str, isT_dict_tup, isT_dict_lst, isT_dict_rol, isT_dict_dct, truQ_non, truQ_bl, truQ_int, truQ_tup, truQ_lst, blQ_bl, lenD_tup, lenD_lst, lenD_rol, lenD_str, tupD_tup, tupD_lst, lstD_tup, lstD_lst, lstD_rol, intD_i, intD_b, boolD_i, boolD_b, ixD_tup, ixD_lst, ixD_rol, slD_lst, slD_tup, intQ_i, appD_1, extD_1, lsQ_own, lsQ_bor, gTp_t, gsCons_c, seqQ_t, seqQ_l, seqQ_r, hideS_fz, hideS_own, hideS_bor, hideS_no, mmQ_ii, atI_0, atI_1, atI_2, List.map_cons, List.map_nil, List.replicate, List.cons_append, List.nil_append, List.append_nil, List.set, List.length_cons, List.length_nil, decide_eq_true_eq, if_true, if_false, Bool.not_true, Bool.not_false, Bool.false_eq_true, and_true, true_and, List.nodup_cons, List.not_mem_nil, not_false_eq_true, List.nodup_nil, List.mem_cons, or_false, List.getD])
  refine ⟨(by simp [lents, slot, Sl.isOwn]), w_take hJ (by decide) (by decide) fun v o1 h1 v0 v1 => ?_⟩
  (try simp only [dSeq, dIfS, dRet, dRetN, dNext, dSet, dSetO, dDrop, dCall, callQ, dCallKw, dCons, dNil, dBor, dsQ, dTup, dLst, dV, dC, slot, dOp, dUn, dCmp, dCmpT, dChain, dChainT, dTru, dAnd, dOr, dNot, dAndV, dOrV, dNotV, dIf, dIsi, dNoO, dSoO, dSl, bodyQ, endsOf, outsOf, lents, putB, lentQ, dAsg, gNm, gsNil, iSeq, iRng, DL.iRng2, iEnm, dLm, dLm0, dPut, dMm, dYes, hQ, isSub, hideE, pick_0, pick_10, pick_210, rep2, kg, dFor, dLc, wipeD, restD, dPar, ixN3_0, ixN3_1, ixN3_2, ex_some, dRaise_1, dHeard_e, List.set_cons_zero, List.set_cons_succ, rdQ_fz, rdQ_own, rdQ_at, rdS_fz, rdS_own, rdS_bor, frzQ_fz, frzQ_own, frzQ_at, frS_fz, frS_own, nmQ_s, nmS_fz, nmS_own, nmS_bor, retQ_fz, retQ_own, retQ_at, rtS_fz, rtS_own, argsOf_at, argsOf_d, argsOf_n, lnS_own, lnS_bor, lnS_fz, reS_o, reS_b, setF_d, setO_own, setO_fz, setO_at, notBor_fz, notBor_own, notBor_no, isOwn_own, isOwn_bor, addD_ii, addD_ss, addD_ll, addD_tt, subD_ii, mulD_ii, mulD_li, mulD_ti, fdivD_ii, modD_ii, powD_ii, negD_i, ltD_ii, leD_ii, gtD_ii, geD_ii, isQ_n, isQ_b, nisQ_n, isN_non, isN_bl, isN_int, isN_str, isN_tup, isN_lst, isN_rol, isN_dct, isT_int_non, isT_int_bl, isT_int_int, isT_int_str, isT_int_tup, isT_int_lst, isT_int_rol, isT_int_dct, isT_bool_non, isT_bool_bl, isT_bool_int, isT_bool_str, isT_bool_tup, isT_bool_lst, isT_bool_rol, isT_bool_dct, isT_str_non, isT_str_bl, isT_str_int, isT_str_str, isT_str_tup, isT_str_lst, isT_str_rol, isT_str_dct, isT_tuple_non, isT_tuple_bl, isT_tuple_int, isT_tuple_str, isT_tuple_tup, isT_tuple_lst, isT_tuple_rol, isT_tuple_dct, isT_list_non, isT_list_bl, isT_list_int, isT_list_str, isT_list_tup, isT_list_lst, isT_list_rol, isT_list_dct, isT_dict_non, isT_dict_bl, isT_dict_int, isT_dict_str, isT_dict_tup, isT_dict_lst, isT_dict_rol, isT_dict_dct, truQ_non, truQ_bl, truQ_int, truQ_tup, truQ_lst, blQ_bl, lenD_tup, lenD_lst, lenD_rol, lenD_str, tupD_tup, tupD_lst, lstD_tup, lstD_lst, lstD_rol, intD_i, intD_b, boolD_i, boolD_b, ixD_tup, ixD_lst, ixD_rol, slD_lst, slD_tup, intQ_i, appD_1, extD_1, lsQ_own, lsQ_bor, gTp_t, gsCons_c, seqQ_t, seqQ_l, seqQ_r, hideS_fz, hideS_own, hideS_bor, hideS_no, mmQ_ii, atI_0, atI_1, atI_2, List.map_cons, List.map_nil, List.replicate, List.cons_append, List.nil_append, List.append_nil, List.set, List.length_cons, List.length_nil, decide_eq_true_eq, if_true, if_false, Bool.not_true, Bool.not_false, Bool.false_eq_true, and_true, true_and, List.nodup_cons, List.not_mem_nil, not_false_eq_true, List.nodup_nil, List.mem_cons, or_false, List.getD])
  refine ⟨(by rw [sizeLine_eq]; omega), ?_⟩
  refine forL_ind (Inv := fun rest η => ∃ o' s, J o' ∧ notBor s = true ∧ η = [.fz sc, .own o', s, s3, s4, s5] ∧ ∀ d ∈ rest, ∃ x : Int, d = .int x ∧ 1 ≤ x ∧ x ≤ 24) ?_ ?_ _ _ ⟨o1, s2, h1, hb, rfl, fun d hd => ?_⟩
  · rintro η ⟨o', s, hJ', hs, rfl, _⟩
    exact h o' s hJ' hs
  · rintro d rest η K ⟨o', s, hJ', hs, rfl, hY⟩ hK
    obtain ⟨x, rfl, x1, x2⟩ := hY d List.mem_cons_self
    (try simp only [dSeq, dIfS, dRet, dRetN, dNext, dSet, dSetO, dDrop, dCall, callQ, dCallKw, dCons, dNil, dBor, dsQ, dTup, dLst, dV, dC, slot, dOp, dUn, dCmp, dCmpT, dChain, dChainT, dTru, dAnd, dOr, dNot, dAndV, dOrV, dNotV, dIf, dIsi, dNoO, dSoO, dSl, bodyQ, endsOf, outsOf, lents, putB, lentQ, dAsg, gNm, gsNil, iSeq, iRng, DL.iRng2, iEnm, dLm, dLm0, dPut, dMm, dYes, hQ, isSub, hideE, pick_0, pick_10, pick_210, rep2, kg, dFor, dLc, wipeD, restD, dPar, ixN3_0, ixN3_1, ixN3_2, ex_some, dRaise_1, dHeard_e, List.set_cons_zero, List.set_cons_succ, rdQ_fz, rdQ_own, rdQ_at, rdS_fz, rdS_own, rdS_bor, frzQ_fz, frzQ_own, frzQ_at, frS_fz, frS_own, nmQ_s, nmS_fz, nmS_own, nmS_bor, retQ_fz, retQ_own, retQ_at, rtS_fz, rtS_own, argsOf_at, argsOf_d, argsOf_n, lnS_own, lnS_bor, lnS_fz, reS_o, reS_b, setF_d, setO_own, setO_fz, setO_at, notBor_fz, notBor_own, notBor_no, isOwn_own, isOwn_bor, addD_ii, addD_ss, addD_ll, addD_tt, subD_ii, mulD_ii, mulD_li, mulD_ti, fdivD_ii, modD_ii, powD_ii, negD_i, ltD_ii, leD_ii, gtD_ii, geD_ii, isQ_n, isQ_b, nisQ_n, isN_non, isN_bl, isN_int, isN_str, isN_tup, isN_lst, isN_rol, isN_dct, isT_int_non, isT_int_bl, isT_int_int, isT_int_str, isT_int_tup, isT_int_lst, isT_int_rol, isT_int_dct, isT_bool_non, isT_bool_bl, isT_bool_int, isT_bool_str, isT_bool_tup, isT_bool_lst, isT_bool_rol, isT_bool_dct, isT_str_non, isT_str_bl, isT_str_int, isT_str_str, isT_str_tup, isT_str_lst, isT_str_rol, isT_str_dct, isT_tuple_non, isT_tuple_bl, isT_tuple_int, isT_tuple_str, isT_tuple_tup, isT_tuple_lst, isT_tuple_rol, isT_tuple_dct, isT_list_non, isT_list_bl, isT_list_int, isT_list_str, isT_list_tup, isT_list_lst, isT_list_rol, isT_list_dct, isT_dict_non, isT_dict_bl, isT_dict_int, isT_dict_str, isT_dict_tup, isT_dict_lst, isT_dict_rol, isT_dict_dct, truQ_non, truQ_bl, truQ_int, truQ_tup, truQ_lst, blQ_bl, lenD_tup, lenD_lst, lenD_rol, lenD_str, tupD_tup, tupD_lst, lstD_tup, lstD_lst, lstD_rol, intD_i, intD_b, boolD_i, boolD_b, ixD_tup, ixD_lst, ixD_rol, slD_lst, slD_tup, intQ_i, appD_1, extD_1, lsQ_own, lsQ_bor, gTp_t, gsCons_c, seqQ_t, seqQ_l, seqQ_r, hideS_fz, hideS_own, hideS_bor, hideS_no, mmQ_ii, atI_0, atI_1, atI_2, List.map_cons, List.map_nil, List.replicate, List.cons_append, List.nil_append, List.append_nil, List.set, List.length_cons, List.length_nil, decide_eq_true_eq, if_true, if_false, Bool.not_true, Bool.not_false, Bool.false_eq_true, and_true, true_and, List.nodup_cons, List.not_mem_nil, not_false_eq_true, List.nodup_nil, List.mem_cons, or_false, List.getD, hs])
    refine ⟨(by simp [lents, slot, Sl.isOwn]), w_world_right hJ' x1 x2 fun o2 h2 => ?_⟩
    (try simp only [dSeq, dIfS, dRet, dRetN, dNext, dSet, dSetO, dDrop, dCall, callQ, dCallKw, dCons, dNil, dBor, dsQ, dTup, dLst, dV, dC, slot, dOp, dUn, dCmp, dCmpT, dChain, dChainT, dTru, dAnd, dOr, dNot, dAndV, dOrV, dNotV, dIf, dIsi, dNoO, dSoO, dSl, bodyQ, endsOf, outsOf, lents, putB, lentQ, dAsg, gNm, gsNil, iSeq, iRng, DL.iRng2, iEnm, dLm, dLm0, dPut, dMm, dYes, hQ, isSub, hideE, pick_0, pick_10, pick_210, rep2, kg, dFor, dLc, wipeD, restD, dPar, ixN3_0, ixN3_1, ixN3_2, ex_some, dRaise_1, dHeard_e, List.set_cons_zero, List.set_cons_succ, rdQ_fz, rdQ_own, rdQ_at, rdS_fz, rdS_own, rdS_bor, frzQ_fz, frzQ_own, frzQ_at, frS_fz, frS_own, nmQ_s, nmS_fz, nmS_own, nmS_bor, retQ_fz, retQ_own, retQ_at, rtS_fz, rtS_own, argsOf_at, argsOf_d, argsOf_n, lnS_own, lnS_bor, lnS_fz, reS_o, reS_b, setF_d, setO_own, setO_fz, setO_at, notBor_fz, notBor_own, notBor_no, isOwn_own, isOwn_bor, addD_ii, addD_ss, addD_ll, addD_tt, subD_ii, mulD_ii, mulD_li, mulD_ti, fdivD_ii, modD_ii, powD_ii, negD_i, ltD_ii, leD_ii, gtD_ii, geD_ii, isQ_n, isQ_b, nisQ_n, isN_non, isN_bl, isN_int, isN_str, isN_tup, isN_lst, isN_rol, isN_dct, isT_int_non, isT_int_bl, isT_int_int, isT_int_str, isT_int_tup, isT_int_lst, isT_int_rol, isT_int_dct, isT_bool_non, isT_bool_bl, isT_bool_int, isT_bool_str, isT_bool_tup, isT_bool_lst, isT_bool_rol, isT_bool_dct, isT_str_non, isT_str_bl, isT_str_int, isT_str_str, isT_str_tup, isT_str_lst, isT_str_rol, isT_str_dct, isT_tuple_non, isT_tuple_bl, isT_tuple_int, isT_tuple_str, isT_tuple_tup, isT_tuple_lst, isT_tuple_rol, isT_tuple_dct, isT_list_non, isT_list_bl, isT_list_int, isT_list_str, isT_list_tup, isT_list_lst, isT_list_rol, isT_list_dct, isT_dict_non, isT_dict_bl, isT_dict_int, isT_dict_str, isT_dict_tup, isT_dict_lst, isT_dict_rol, isT_dict_dct, truQ_non, truQ_bl, truQ_int, truQ_tup, truQ_lst, blQ_bl, lenD_tup, lenD_lst, lenD_rol, lenD_str, tupD_tup, tupD_lst, lstD_tup, lstD_lst, lstD_rol, intD_i, intD_b, boolD_i, boolD_b, ixD_tup, ixD_lst, ixD_rol, slD_lst, slD_tup, intQ_i, appD_1, extD_1, lsQ_own, lsQ_bor, gTp_t, gsCons_c, seqQ_t, seqQ_l, seqQ_r, hideS_fz, hideS_own, hideS_bor, hideS_no, mmQ_ii, atI_0, atI_1, atI_2, List.map_cons, List.map_nil, List.replicate, List.cons_append, List.nil_append, List.append_nil, List.set, List.length_cons, List.length_nil, decide_eq_true_eq, if_true, if_false, Bool.not_true, Bool.not_false, Bool.false_eq_true, and_true, true_and, List.nodup_cons, List.not_mem_nil, not_false_eq_true, List.nodup_nil, List.mem_cons, or_false, List.getD])
    exact hK _ ⟨o2, _, h2, rfl, rfl, fun z hz => hY z (List.mem_cons_of_mem _ hz)⟩
  · simp only [List.mem_cons, List.mem_append, List.not_mem_nil, or_false] at hd
    rcases hd with rfl | rfl | rfl | rfl | rfl | rfl
    · exact ⟨_, rfl, by decide, by decide⟩
    · exact ⟨_, rfl, by decide, by decide⟩
    · exact ⟨_, rfl, by decide, by decide⟩
    · exact ⟨_, rfl, by decide, by decide⟩
    · exact ⟨_, rfl, by decide, by decide⟩
    · exact ⟨_, rfl, by omega, by omega⟩
theorem la3 (hJ : J o) (hb : notBor s3 = true) (h : ∀ o' s, J o' → notBor s = true → u Dn [.fz sc, .own o', s2, s, s4, s5]) :
    dSeq (dFor (iSeq (dOp addD (dCall sp_things ED0 (dBor 1 dNil)) (dLst (dCons (dOp mulD (dTup (dCons (dC (.int 1)) dNil)) (dC (.int 24))) (dCons (dOp mulD (dTup (dCons (dC (.int 6)) dNil)) (dC (.int 24))) (dCons (dOp mulD (dTup (dCons (dC (.int 1)) dNil)) (dC (.int 25))) (dCons (dOp mulD (dTup (dCons (dC .non) dNil)) (dC (.int 25))) (dCons (dOp mulD (dTup (dCons (dC (.int 9)) dNil)) (dC (.int 24))) (dCons (dOp mulD (dTup (dCons (dC (.bl true)) dNil)) (dC (.int 24))) dNil))))))))) (gNm 3) (dIfS (dNot (dTru (dCall sp_sizes_right ED0 (dCons (dV 3) dNil)))) (dRet (dC (.bl false))) dNext)) u Dn [.fz sc, .own o, s2, s3, s4, s5] := by
  refine seq_i (for_i (op_i ?_))
  show (slot [.fz sc, .own o, s2, s3, s4, s5] 1).isOwn = true ∧ (lentQ [Ar.at 1] [.fz sc, .own o, s2, s3, s4, s5]) ∧ sp_things [.bor o] _ _
  refine ⟨rfl, by simp [lentQ, lents, slot, Sl.isOwn], w_things hJ fun th o' hJ' hth hl => ?_⟩
  show dLst _ [.fz sc, .own o', s2, s3, s4, s5] _
  have pm : ∀ {c : D} {y : Int} {η : En}, 1 ≤ y → y ≤ 1000 → Pu (dOp mulD (dTup (dCons (dC c) dNil)) (dC (.int y))) η (.tup (List.replicate y.toNat [c]).flatten) := fun {c y η} h1 h2 =>
    .mulT (.cons .c .nil) .c l1000 ⟨by simp, h1, h2, Nat.le_of_ble_eq_true rfl⟩ uC
  refine lst_i (.cons (pm (by decide) (by decide)) (.cons (pm (by decide) (by decide)) (.cons (pm (by decide) (by decide)) (.cons (pm (by decide) (by decide)) (.cons (pm (by decide) (by decide)) (.cons (pm (by decide) (by decide)) .nil)))))) l1000 ?_
  refine ⟨by rw [hl]; exact ln3 (by decide), ?_⟩
  refine loopS (fun s => [.fz sc, .own o', s2, s, s4, s5]) (fun s => rfl) (fun s d => rfl) (fun s hs => h o' s hJ' hs) _ s3 hb fun d hd => ?_
  rcases List.mem_append.mp hd with hd | hd
  · exact (hth d hd).le (by decide)
  · simp only [List.mem_cons, List.not_mem_nil, or_false] at hd
    rcases hd with rfl | rfl | rfl | rfl | rfl | rfl
    · exact Yrep Yint l1000
    · exact Yrep Yint l1000
    · exact Yrep Yint l1000
    · exact Yrep Ynon l1000
    · exact Yrep Yint l1000
    · exact Yrep Ybo l1000
theorem puS {x : DTE} {η : En} {d : D} (h : Pu x η d) : Pu (dOp ixD (dCall sp_sizes_told ED0 (dCons x dNil)) (dC (.int 0))) η (tS d) := fun _ k =>
  h _ ⟨⟨by simp [lents], by simp [lents]⟩, w_sizes_told ⟨_, atI_0, k⟩⟩
theorem puP {x y : DTE} {η : En} {d e : D} (h : Pu x η d) (h2 : Pu y η e) : Pu (dOp ixD (dCall sp_page_told ED0 (dCons x (dCons y dNil))) (dC (.int 0))) η (tP d e) := fun _ k =>
  h _ (h2 _ ⟨⟨by simp [lents], by simp [lents]⟩, w_page_told ⟨_, atI_0, k⟩⟩)
theorem puP2 {x y : DTE} {η : En} {d e : D} (h : Pu x η d) (h2 : Pu y η e) : Pu (dOp ixD (dCall sp_page_told ED0 (dCons x (dCons y dNil))) (dC (.int 2))) η (.tup [.str "told", .bl (isPg d e)]) := fun _ k =>
  h _ (h2 _ ⟨⟨by simp [lents], by simp [lents]⟩, w_page_told ⟨_, atI_2, k⟩⟩)
theorem lmd_i {i : Nat} {rd : DLM} {ta : DTA} {η : En} {as ds : List D} (h : PA ta η as) (hs : slot η i = .own (.lst ds)) (k : rd ds as fun _ ds' => Dn.nx (η.set i (.own (.lst ds')))) : dDrop (dLm i rd ta) Dn η := by
  show lsQ (slot η i) _
  rw [hs]
  refine h _ ?_
  rw [dsQ_map, hs]
  exact k
theorem t2 {a b : D} {η : En} : Pu (dTup (dCons (dC a) (dCons (dC b) dNil))) η (.tup [a, b]) := .tup (.cons .c (.cons .c .nil)) l1000
theorem la4 (hb : notBor s4 = true) (h : u Dn [.fz sc, .own o, s2, s3, .own (.lst [tS (.tup [.int 3, .int 2]), tS (.tup [.int 3, .int 0, .int 7]), .tup [.str "told", .bl (isPg (.tup [.int 3, .int 2]) (.tup [.int 2, .int 1]))]]), s5]) :
    dSeq (dSetO 4 (dLst (dCons (dOp ixD (dCall sp_sizes_told ED0 (dCons (dTup (dCons (dC (.int 3)) (dCons (dC (.int 2)) dNil))) dNil)) (dC (.int 0))) (dCons (dOp ixD (dCall sp_sizes_told ED0 (dCons (dTup (dCons (dC (.int 3)) (dCons (dC (.int 0)) (dCons (dC (.int 7)) dNil)))) dNil)) (dC (.int 0))) (dCons (dOp ixD (dCall sp_page_told ED0 (dCons (dTup (dCons (dC (.int 3)) (dCons (dC (.int 2)) dNil))) (dCons (dTup (dCons (dC (.int 2)) (dCons (dC (.int 1)) dNil))) dNil))) (dC (.int 2))) dNil))))) u Dn [.fz sc, .own o, s2, s3, s4, s5] :=
  seq_i (setO_i (lst_i (.cons (puS t2) (.cons (puS (.tup (.cons .c (.cons .c (.cons .c .nil))) l1000)) (.cons (puP2 t2 t2) .nil))) l1000 ⟨hb, h⟩))
theorem la5 {a b c : D} (h : u Dn [.fz sc, .own o, s2, s3, .own (.lst [a, b, c, tP (.tup [.int 3, .int 2]) (.tup [.int 3, .int 2]), tP (.tup [.int 3, .int 2]) (.tup [.int 2, .bl true])]), s5]) :
    dSeq (dDrop (dLm 4 extD (dCons (dLst (dCons (dOp ixD (dCall sp_page_told ED0 (dCons (dTup (dCons (dC (.int 3)) (dCons (dC (.int 2)) dNil))) (dCons (dTup (dCons (dC (.int 3)) (dCons (dC (.int 2)) dNil))) dNil))) (dC (.int 0))) (dCons (dOp ixD (dCall sp_page_told ED0 (dCons (dTup (dCons (dC (.int 3)) (dCons (dC (.int 2)) dNil))) (dCons (dTup (dCons (dC (.int 2)) (dCons (dC (.bl true)) dNil))) dNil))) (dC (.int 0))) dNil))) dNil))) u Dn [.fz sc, .own o, s2, s3, .own (.lst [a, b, c]), s5] :=
  seq_i (lmd_i (.cons (.lst (.cons (puP t2 t2) (.cons (puP t2 t2) .nil)) l1000) .nil) rfl ⟨ln3 (by show 5 ≤ 1000; decide), h⟩)
theorem la6 {a b c d e : D} (h : u Dn [.fz sc, .own o, s2, s3, .own (.lst [a, b, c, d, e, tP (.tup [.int 3]) (.lst [.int 0])]), s5]) :
    dSeq (dDrop (dLm 4 appD (dCons (dOp ixD (dCall sp_page_told ED0 (dCons (dTup (dCons (dC (.int 3)) dNil)) (dCons (dLst (dCons (dC (.int 0)) dNil)) dNil))) (dC (.int 0))) dNil))) u Dn [.fz sc, .own o, s2, s3, .own (.lst [a, b, c, d, e]), s5] :=
  seq_i (lmd_i (.cons (puP (.tup (.cons .c .nil) l1000) (.lst (.cons .c .nil) l1000)) .nil) rfl ⟨by show 5 < sizeLine; rw [sizeLine_eq]; decide, h⟩)
theorem la7 (hb : notBor s5 = true) (h : u Dn [.fz sc, .own o, s2, s3, s4, .fz (.lst [.tup [.str "told", .tup [.int 3, .int 2]], .tup [.str "BadSizes", .int 1], .tup [.str "told", .bl true], .tup [.str "BadPage", .int 0], .tup [.str "BadPage", .int 1], .tup [.str "BadPage", .int (-1)]])]) :
    dSeq (dSet 5 (dLst (dCons (dTup (dCons (dC (.str "told")) (dCons (dTup (dCons (dC (.int 3)) (dCons (dC (.int 2)) dNil))) dNil))) (dCons (dTup (dCons (dC (.str "BadSizes")) (dCons (dC (.int 1)) dNil))) (dCons (dTup (dCons (dC (.str "told")) (dCons (dC (.bl true)) dNil))) (dCons (dTup (dCons (dC (.str "BadPage")) (dCons (dC (.int 0)) dNil))) (dCons (dTup (dCons (dC (.str "BadPage")) (dCons (dC (.int 1)) dNil))) (dCons (dTup (dCons (dC (.str "BadPage")) (dCons (dUn negD (dC (.int 1))) dNil))) dNil)))))))) u Dn [.fz sc, .own o, s2, s3, s4, s5] := by
  have p2 : ∀ {a b : D} {η : En}, Pu (dTup (dCons (dC a) (dCons (dC b) dNil))) η (.tup [a, b]) := .tup (.cons .c (.cons .c .nil)) l1000
  exact seq_i (set_i (lst_i (.cons (.tup (.cons .c (.cons p2 .nil)) l1000) (.cons p2 (.cons p2 (.cons p2 (.cons p2 (.cons (.tup (.cons .c (.cons .neg .nil)) l1000) .nil)))))) l1000 (nb_i hb h)))
end
end K01

set_option Elab.async false
set_option linter.all false
set_option maxRecDepth 100000
set_option maxHeartbeats 400000
namespace K01
open PySem PySem.Spec PyProof.Rows L2 LamX NdefX DL
theorem same6 : [tS (.tup [.int 3, .int 2]), tS (.tup [.int 3, .int 0, .int 7]), .tup [.str "told", .bl (isPg (.tup [.int 3, .int 2]) (.tup [.int 2, .int 1]))], tP (.tup [.int 3, .int 2]) (.tup [.int 3, .int 2]), tP (.tup [.int 3, .int 2]) (.tup [.int 2, .bl true]), tP (.tup [.int 3]) (.lst [.int 0])] =
    [D.tup [.str "told", .tup [.int 3, .int 2]], .tup [.str "BadSizes", .int 1], .tup [.str "told", .bl true], .tup [.str "BadPage", .int 0], .tup [.str "BadPage", .int 1], .tup [.str "BadPage", .int (-1)]] := rfl
theorem y6 : Y 59 (.lst [D.tup [.str "told", .tup [.int 3, .int 2]], .tup [.str "BadSizes", .int 1], .tup [.str "told", .bl true], .tup [.str "BadPage", .int 0], .tup [.str "BadPage", .int 1], .tup [.str "BadPage", .int (-1)]]) := by
  refine Y.lstOf (m := 58) l1000 fun d hd => ?_
  simp only [List.mem_cons, List.not_mem_nil, or_false] at hd
  rcases hd with rfl | rfl | rfl | rfl | rfl | rfl
  · exact Ytold st1 (Y.tupOf (m := 56) l1000 fun d hd => by
      simp only [List.mem_cons, List.not_mem_nil, or_false] at hd
      rcases hd with rfl | rfl <;> exact Yint)
  · exact Ytold st2 Yint
  · exact Ytold st1 Ybo
  · exact Ytold st3 Yint
  · exact Ytold st3 Yint
  · exact Ytold st3 Yint
theorem la8 {sc : D} {o : OC} {s2 s3 : Sl} {L : List D} {Q : Rv → List OC → Prop} (hY : Y 59 (.lst L)) (h : Q (.fz (.bl true)) []) : dRet (dCall (sp_yq_same 60) ED0 (dCons (dV 4) (dCons (dV 5) dNil))) (endsOf [.fz sc] Q) [.fz sc, .own o, s2, s3, .own (.lst L), .fz (.lst L)] := by
  (try simp only [dSeq, dIfS, dRet, dRetN, dNext, dSet, dSetO, dDrop, dCall, callQ, dCallKw, dCons, dNil, dBor, dsQ, dTup, dLst, dV, dC, slot, dOp, dUn, dCmp, dCmpT, dChain, dChainT, dTru, dAnd, dOr, dNot, dAndV, dOrV, dNotV, dIf, dIsi, dNoO, dSoO, dSl, bodyQ, endsOf, outsOf, lents, putB, lentQ, dAsg, gNm, gsNil, iSeq, iRng, DL.iRng2, iEnm, dLm, dLm0, dPut, dMm, dYes, hQ, isSub, hideE, pick_0, pick_10, pick_210, rep2, kg, dFor, dLc, wipeD, restD, dPar, ixN3_0, ixN3_1, ixN3_2, ex_some, dRaise_1, dHeard_e, List.set_cons_zero, List.set_cons_succ, rdQ_fz, rdQ_own, rdQ_at, rdS_fz, rdS_own, rdS_bor, frzQ_fz, frzQ_own, frzQ_at, frS_fz, frS_own, nmQ_s, nmS_fz, nmS_own, nmS_bor, retQ_fz, retQ_own, retQ_at, rtS_fz, rtS_own, argsOf_at, argsOf_d, argsOf_n, lnS_own, lnS_bor, lnS_fz, reS_o, reS_b, setF_d, setO_own, setO_fz, setO_at, notBor_fz, notBor_own, notBor_no, isOwn_own, isOwn_bor, addD_ii, addD_ss, addD_ll, addD_tt, subD_ii, mulD_ii, mulD_li, mulD_ti, fdivD_ii, modD_ii, powD_ii, negD_i, ltD_ii, leD_ii, gtD_ii, geD_ii, isQ_n, isQ_b, nisQ_n, isN_non, isN_bl, isN_int, isN_str, isN_tup, isN_lst, isN_rol, isN_dct, isT_int_non, isT_int_bl, isT_int_int, isT_int_str, isT_int_tup, isT_int_lst, isT_int_rol, isT_int_dct, isT_bool_non, isT_bool_bl, isT_bool_int, isT_bool_str, isT_bool_tup, isT_bool_lst, isT_bool_rol, isT_bool_dct, isT_str_non, isT_str_bl, isT_str_int, isT_str_str, isT_str_tup, isT_str_lst, isT_str_rol, isT_str_dct, isT_tuple_non, isT_tuple_bl, isT_tuple_int, isT_tuple_str, isT_tuple_tup, isT_tuple_lst, isT_tuple_rol, isT_tuple_dct, isT_list_non, isT_list_bl, isT_list_int, isT_list_str, isT_list_tup, isT_list_lst, isT_list_rol, isT_list_dct, isT_dict_non, isT_dict_bl, isT_dict_int, isT_dict_str, isT_dict_tup, isT_dict_lst, isT_dict_rol, isT_dict_dct, truQ_non, truQ_bl, truQ_int, truQ_tup, truQ_lst, blQ_bl, lenD_tup, lenD_lst, lenD_rol, lenD_str, tupD_tup, tupD_lst, lstD_tup, lstD_lst, lstD_rol, intD_i, intD_b, boolD_i, boolD_b, ixD_tup, ixD_lst, ixD_rol, slD_lst, slD_tup, intQ_i, appD_1, extD_1, lsQ_own, lsQ_bor, gTp_t, gsCons_c, seqQ_t, seqQ_l, seqQ_r, hideS_fz, hideS_own, hideS_bor, hideS_no, mmQ_ii, atI_0, atI_1, atI_2, List.map_cons, List.map_nil, List.replicate, List.cons_append, List.nil_append, List.append_nil, List.set, List.length_cons, List.length_nil, decide_eq_true_eq, if_true, if_false, Bool.not_true, Bool.not_false, Bool.false_eq_true, and_true, true_and, List.nodup_cons, List.not_mem_nil, not_false_eq_true, List.nodup_nil, List.mem_cons, or_false, List.getD])
  refine ⟨(by simp [lents, slot, Sl.isOwn]), w_same 59 _ _ _ hY ?_⟩
  (try simp only [dSeq, dIfS, dRet, dRetN, dNext, dSet, dSetO, dDrop, dCall, callQ, dCallKw, dCons, dNil, dBor, dsQ, dTup, dLst, dV, dC, slot, dOp, dUn, dCmp, dCmpT, dChain, dChainT, dTru, dAnd, dOr, dNot, dAndV, dOrV, dNotV, dIf, dIsi, dNoO, dSoO, dSl, bodyQ, endsOf, outsOf, lents, putB, lentQ, dAsg, gNm, gsNil, iSeq, iRng, DL.iRng2, iEnm, dLm, dLm0, dPut, dMm, dYes, hQ, isSub, hideE, pick_0, pick_10, pick_210, rep2, kg, dFor, dLc, wipeD, restD, dPar, ixN3_0, ixN3_1, ixN3_2, ex_some, dRaise_1, dHeard_e, List.set_cons_zero, List.set_cons_succ, rdQ_fz, rdQ_own, rdQ_at, rdS_fz, rdS_own, rdS_bor, frzQ_fz, frzQ_own, frzQ_at, frS_fz, frS_own, nmQ_s, nmS_fz, nmS_own, nmS_bor, retQ_fz, retQ_own, retQ_at, rtS_fz, rtS_own, argsOf_at, argsOf_d, argsOf_n, lnS_own, lnS_bor, lnS_fz, reS_o, reS_b, setF_d, setO_own, setO_fz, setO_at, notBor_fz, notBor_own, notBor_no, isOwn_own, isOwn_bor, addD_ii, addD_ss, addD_ll, addD_tt, subD_ii, mulD_ii, mulD_li, mulD_ti, fdivD_ii, modD_ii, powD_ii, negD_i, ltD_ii, leD_ii, gtD_ii, geD_ii, isQ_n, isQ_b, nisQ_n, isN_non, isN_bl, isN_int, isN_str, isN_tup, isN_lst, isN_rol, isN_dct, isT_int_non, isT_int_bl, isT_int_int, isT_int_str, isT_int_tup, isT_int_lst, isT_int_rol, isT_int_dct, isT_bool_non, isT_bool_bl, isT_bool_int, isT_bool_str, isT_bool_tup, isT_bool_lst, isT_bool_rol, isT_bool_dct, isT_str_non, isT_str_bl, isT_str_int, isT_str_str, isT_str_tup, isT_str_lst, isT_str_rol, isT_str_dct, isT_tuple_non, isT_tuple_bl, isT_tuple_int, isT_tuple_str, isT_tuple_tup, isT_tuple_lst, isT_tuple_rol, isT_tuple_dct, isT_list_non, isT_list_bl, isT_list_int, isT_list_str, isT_list_tup, isT_list_lst, isT_list_rol, isT_list_dct, isT_dict_non, isT_dict_bl, isT_dict_int, isT_dict_str, isT_dict_tup, isT_dict_lst, isT_dict_rol, isT_dict_dct, truQ_non, truQ_bl, truQ_int, truQ_tup, truQ_lst, blQ_bl, lenD_tup, lenD_lst, lenD_rol, lenD_str, tupD_tup, tupD_lst, lstD_tup, lstD_lst, lstD_rol, intD_i, intD_b, boolD_i, boolD_b, ixD_tup, ixD_lst, ixD_rol, slD_lst, slD_tup, intQ_i, appD_1, extD_1, lsQ_own, lsQ_bor, gTp_t, gsCons_c, seqQ_t, seqQ_l, seqQ_r, hideS_fz, hideS_own, hideS_bor, hideS_no, mmQ_ii, atI_0, atI_1, atI_2, List.map_cons, List.map_nil, List.replicate, List.cons_append, List.nil_append, List.append_nil, List.set, List.length_cons, List.length_nil, decide_eq_true_eq, if_true, if_false, Bool.not_true, Bool.not_false, Bool.false_eq_true, and_true, true_and, List.nodup_cons, List.not_mem_nil, not_false_eq_true, List.nodup_nil, List.mem_cons, or_false, List.getD])
  all_goals exact h
theorem S2 : ∀ ns : List Int, ns.length ≤ 63 → (∀ z ∈ ns, Builtin.Int.intBits z ≤ 1048576) → sp_law [.fz (.rol (ns.map D.int))] (fun r _ => r = .fz (.bl true)) (fun _ _ => False) := by
  intro ns hl _
  refine ⟨rfl, ?_⟩
  unfold bodyQ td_law
  show dSeq _ _ (endsOf [.fz (.rol (ns.map D.int))] _) [.fz (.rol (ns.map D.int)), .no, .no, .no, .no, .no]
  refine la1 hl (fun o1 j1 => ?_) rfl
  refine la2 j1 rfl fun o2 s2 j2 b2 => ?_
  refine la3 j2 rfl fun o3 s3 j3 b3 => ?_
  refine la4 rfl ?_
  refine la5 ?_
  refine la6 ?_
  refine la7 rfl ?_
  rw [same6]
  exact la8 y6 rfl
end K01

open PySem PySem.W PyProof.Rows
set_option maxRecDepth 100000 in
set_option maxHeartbeats 0 in
theorem PySem.Challenge.cw_campsapart_k01_sizes_and_pages_of_anythi_holds : PySem.Challenge.rw_campsapart_k01_sizes_and_pages_of_anythi.Holds := by
  w_on; o_law; k_head; (case hw => w_witness2)
  k_fill
  refine LamX.walk_ofTs (l := PySem.Challenge.rw_campsapart_k01_sizes_and_pages_of_anythi) (n := 63) (k := 65) (CX := fun w => L2.CX (PySem.Challenge.rw_campsapart_k01_sizes_and_pages_of_anythi).prog w) (x := "script") rfl (by decide) rfl ⟨rfl, by decide, by decide⟩ (fun w h Y => PySem.W.km_in_of Y) ?F (fun w H s e s' z => by obtain ⟨_, _, _, _, _, _, _, _, _, _, _, _, z⟩ := z; exact z)
  case F =>
    intro w mg fa h Y KX G hmg
    refine' K01.all_mk KX G hmg K01.S2 ?n_is_between ?F_is_between ?n_is_below ?F_is_below ?n_wrong_size ?F_wrong_size ?n_is_sizes ?F_is_sizes ?n_made_sizes ?F_made_sizes ?n_wrong_worth ?F_wrong_worth ?n_is_page ?F_is_page ?n_made_page ?F_made_page ?n_pool ?F_pool ?n_take ?F_take ?n_one ?F_one ?n_yq_is_whole ?F_yq_is_whole ?n_yq_same ?F_yq_same ?n_zc_sizes_due ?F_zc_sizes_due ?n_zc_page_due ?F_zc_page_due ?n_zc_sizes ?F_zc_sizes ?n_zc_page ?F_zc_page ?n_heard ?F_heard ?n_sizes_told ?F_sizes_told ?n_page_told ?F_page_told ?n_owed ?F_owed ?n_sizes_right ?F_sizes_right ?n_page_right ?F_page_right ?n_deep ?F_deep ?n_bent ?F_bent ?n_things ?F_things ?n_world_right ?F_world_right ?n_law ?F_law ?z_bool ?z_enumerate ?z_int ?z_isinstance ?z_len ?z_list ?z_max ?z_range ?z_str ?z_tuple ?v_MOST_SETTINGS ?v_MOST_WORTHS ?hc_sizes_told ?hd_sizes_told ?ho_sizes_told ?ht_sizes_told ?hc_page_told ?hd_page_told ?ho_page_told ?ht_page_told ?nd_sizes_told_page_told ?n_Refused ?o_Refused ?n_BadSizes ?o_BadSizes ?n_BadPage ?o_BadPage ?e_Refused_Refused ?e_Refused_BadSizes ?e_Refused_BadPage ?e_BadSizes_Refused ?e_BadSizes_BadSizes ?e_BadSizes_BadPage ?e_BadPage_Refused ?e_BadPage_BadSizes ?e_BadPage_BadPage ?fi_BadSizes ?I ?tI ?z_super ?th ?dcl ?top ?md_BadSizes ?md_BadPage
    (case n_is_between => k_is)
    (case F_is_between => refine' DL.FunL.of ?lk ?cc ?kp; (case lk => k_is); (case cc => k_is); (case kp => k_is))
    (case n_is_below => k_is)
    (case F_is_below => refine' DL.FunL.of ?lk ?cc ?kp; (case lk => k_is); (case cc => k_is); (case kp => k_is))
    (case n_wrong_size => k_is)
    (case F_wrong_size => refine' DL.FunL.of ?lk ?cc ?kp; (case lk => k_is); (case cc => k_is); (case kp => k_is))
    (case n_is_sizes => k_is)
    (case F_is_sizes => refine' DL.FunL.of ?lk ?cc ?kp; (case lk => k_is); (case cc => k_is); (case kp => k_is))
    (case n_made_sizes => k_is)
    (case F_made_sizes => refine' DL.FunL.of ?lk ?cc ?kp; (case lk => k_is); (case cc => k_is); (case kp => k_is))
    (case n_wrong_worth => k_is)
    (case F_wrong_worth => refine' DL.FunL.of ?lk ?cc ?kp; (case lk => k_is); (case cc => k_is); (case kp => k_is))
    (case n_is_page => k_is)
    (case F_is_page => refine' DL.FunL.of ?lk ?cc ?kp; (case lk => k_is); (case cc => k_is); (case kp => k_is))
    (case n_made_page => k_is)
    (case F_made_page => refine' DL.FunL.of ?lk ?cc ?kp; (case lk => k_is); (case cc => k_is); (case kp => k_is))
    (case n_pool => k_is)
    (case F_pool => refine' DL.FunL.of ?lk ?cc ?kp; (case lk => k_is); (case cc => k_is); (case kp => k_is))
    (case n_take => k_is)
    (case F_take => refine' DL.FunL.of ?lk ?cc ?kp; (case lk => k_is); (case cc => k_is); (case kp => k_is))
    (case n_one => k_is)
    (case F_one => refine' DL.FunL.of ?lk ?cc ?kp; (case lk => k_is); (case cc => k_is); (case kp => k_is))
    (case n_yq_is_whole => k_is)
    (case F_yq_is_whole => refine' DL.FunL.of ?lk ?cc ?kp; (case lk => k_is); (case cc => k_is); (case kp => k_is))
    (case n_yq_same => k_is)
    (case F_yq_same => refine' DL.FunL.of ?lk ?cc ?kp; (case lk => k_is); (case cc => k_is); (case kp => k_is))
    (case n_zc_sizes_due => k_is)
    (case F_zc_sizes_due => refine' DL.FunL.of ?lk ?cc ?kp; (case lk => k_is); (case cc => k_is); (case kp => k_is))
    (case n_zc_page_due => k_is)
    (case F_zc_page_due => refine' DL.FunL.of ?lk ?cc ?kp; (case lk => k_is); (case cc => k_is); (case kp => k_is))
    (case n_zc_sizes => k_is)
    (case F_zc_sizes => refine' DL.FunL.of ?lk ?cc ?kp; (case lk => k_is); (case cc => k_is); (case kp => k_is))
    (case n_zc_page => k_is)
    (case F_zc_page => refine' DL.FunL.of ?lk ?cc ?kp; (case lk => k_is); (case cc => k_is); (case kp => k_is))
    (case n_heard => k_is)
    (case F_heard => refine' DL.FunL.of ?lk ?cc ?kp; (case lk => k_is); (case cc => k_is); (case kp => k_is))
    (case n_sizes_told => k_is)
    (case F_sizes_told => refine' DL.FunL.of ?lk ?cc ?kp; (case lk => k_is); (case cc => k_is); (case kp => k_is))
    (case n_page_told => k_is)
    (case F_page_told => refine' DL.FunL.of ?lk ?cc ?kp; (case lk => k_is); (case cc => k_is); (case kp => k_is))
    (case n_owed => k_is)
    (case F_owed => refine' DL.FunL.of ?lk ?cc ?kp; (case lk => k_is); (case cc => k_is); (case kp => k_is))
    (case n_sizes_right => k_is)
    (case F_sizes_right => refine' DL.FunL.of ?lk ?cc ?kp; (case lk => k_is); (case cc => k_is); (case kp => k_is))
    (case n_page_right => k_is)
    (case F_page_right => refine' DL.FunL.of ?lk ?cc ?kp; (case lk => k_is); (case cc => k_is); (case kp => k_is))
    (case n_deep => k_is)
    (case F_deep => refine' DL.FunL.of ?lk ?cc ?kp; (case lk => k_is); (case cc => k_is); (case kp => k_is))
    (case n_bent => k_is)
    (case F_bent => refine' DL.FunL.of ?lk ?cc ?kp; (case lk => k_is); (case cc => k_is); (case kp => k_is))
    (case n_things => k_is)
    (case F_things => refine' DL.FunL.of ?lk ?cc ?kp; (case lk => k_is); (case cc => k_is); (case kp => k_is))
    (case n_world_right => k_is)
    (case F_world_right => refine' DL.FunL.of ?lk ?cc ?kp; (case lk => k_is); (case cc => k_is); (case kp => k_is))
    (case n_law => k_is)
    (case F_law => refine' DL.FunL.of ?lk ?cc ?kp; (case lk => k_is); (case cc => k_is); (case kp => k_is))
    (case z_bool => k_is)
    (case z_enumerate => k_is)
    (case z_int => k_is)
    (case z_isinstance => k_is)
    (case z_len => k_is)
    (case z_list => k_is)
    (case z_max => k_is)
    (case z_range => k_is)
    (case z_str => k_is)
    (case z_tuple => k_is)
    (case v_MOST_SETTINGS => k_is)
    (case v_MOST_WORTHS => k_is)
    (case hc_sizes_told => exact rfl)
    (case hd_sizes_told => first | exact (show PySem.W.codeHdIn _ _ 187 = true from rfl) | exact (show PySem.W.codeHdIn _ _ 180 = true from rfl))
    (case ho_sizes_told => first | k_is | kernel_rfl)
    (case ht_sizes_told => exact PySem.W.km_tabs_of Y _ (by decide))
    (case hc_page_told => exact rfl)
    (case hd_page_told => first | exact (show PySem.W.codeHdIn _ _ 187 = true from rfl) | exact (show PySem.W.codeHdIn _ _ 180 = true from rfl))
    (case ho_page_told => first | k_is | kernel_rfl)
    (case ht_page_told => exact PySem.W.km_tabs_of Y _ (by decide))
    (case nd_sizes_told_page_told => decide)
    (case n_Refused => k_is)
    (case o_Refused => refine' ⟨?_, ?_, ?_, ?_, ?_, ?_, ?_⟩ <;> k_is)
    (case n_BadSizes => k_is)
    (case o_BadSizes => refine' ⟨?_, ?_, ?_, ?_, ?_, ?_, ?_⟩ <;> k_is)
    (case n_BadPage => k_is)
    (case o_BadPage => refine' ⟨?_, ?_, ?_, ?_, ?_, ?_, ?_⟩ <;> k_is)
    (case e_Refused_Refused => first | k_is | kernel_rfl)
    (case e_Refused_BadSizes => first | k_is | kernel_rfl)
    (case e_Refused_BadPage => first | k_is | kernel_rfl)
    (case e_BadSizes_Refused => first | k_is | kernel_rfl)
    (case e_BadSizes_BadSizes => first | k_is | kernel_rfl)
    (case e_BadSizes_BadPage => first | k_is | kernel_rfl)
    (case e_BadPage_Refused => first | k_is | kernel_rfl)
    (case e_BadPage_BadSizes => first | k_is | kernel_rfl)
    (case e_BadPage_BadPage => first | k_is | kernel_rfl)
    (case fi_BadSizes => k_is)
    (case I => refine' DL.InitL.of ?lk ?hcd ?hcell ?hcode ?hvs ?hfile; (case lk => k_is); (case hcd => k_is); (case hcell => k_is); (case hcode => k_is); (case hvs => exact rfl); (case hfile => first | exact rfl | decide +kernel))
    (case tI => k_is)
    (case z_super => k_is)
    (case th => k_is)
    (case dcl => first | k_is | kernel_rfl)
    (case top => first | exact rfl | decide +kernel)
    (case md_BadSizes => refine' ⟨DL.cls_of ?lk ?rf, ?sa, ?mro, ?sup, ?ve, ?iC⟩; (case lk => k_is); (case rf => first | exact rfl | decide +kernel); (case sa => k_is); (case mro => first | k_is | kernel_rfl); (case sup => first | k_is | kernel_rfl); (case ve => k_is); (case iC => k_is))
    (case md_BadPage => refine' ⟨DL.cls_of ?lk ?rf, ?sa, ?mro, ?sup, ?ve, ?iC⟩; (case lk => k_is); (case rf => first | exact rfl | decide +kernel); (case sa => k_is); (case mro => first | k_is | kernel_rfl); (case sup => first | k_is | kernel_rfl); (case ve => k_is); (case iC => k_is))
